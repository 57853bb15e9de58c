/-
  Each function computes what its model says. Printed by a program of this claim's own.
-/
import Derived.Test.YtfjmhnfaoifehaaTab
import Derived.Test.YtfjmhnfaoifehaaMod
import Derived.Test.YtfjmhnfaoifehaaWalk1
namespace Go.Proofs.Ytfjmhnfaoifehaa
open Go.Proofs.Ytfjmhnfaoifehaa.Eng
set_option linter.unusedVariables false
set_option linter.unusedSimpArgs false
set_option maxHeartbeats 4000000
set_option maxRecDepth 20000

theorem k_hindcastlaw24_QueuePlays {F : Nat} {p0 : Int} {p1 : (List T_hindcastlaw24_Act)} {p1a0 : Option Addr} {p1n0 p1c0 : Nat} {r0 : Bool} (p1N0 : p1n0 = p1.length) (p1H0 : p1n0 ≤ p1c0) (h : m_hindcastlaw24_QueuePlays F p0 p1 = some r0) :
    Pf Try.prog 4 [.int .u64 p0, .slice p1a0 p1n0 p1c0] (fun w => Rds w [] [] p1a0 (flat c_T_hindcastlaw24_Act p1)) (.bool r0) := by
  unfold m_hindcastlaw24_QueuePlays at h
  refine pf_of_wc Try.func4 rfl Try.ntmps4 rfl rfl (fun w0 hR => ?_)
  have p1S0 := hR
  refine wc_seq ?_
  refine wc_region ?_
  refine wl_pure tt_ok rfl rfl ?_
  refine wl_nil ?_
  refine wx_then ?_
  refine wc_seq ?_
  refine wc_region ?_
  refine wl_pure tt_ok rfl rfl ?_
  replace h := bsome h; obtain ⟨v14, x14, h⟩ := h
  refine wl_cs Try.call8 rfl rfl rfl (s_sp (k_queue_New x14) pNil (fun _ _ => trivial)) rfl ?_
  rintro _ _ ⟨_, ⟨b14_0, v14a0, v14n0, v14c0, v14B0, v14N0, v14V0, rfl, rfl⟩, rfl⟩
  refine wl_pure tt_ok rfl rfl ?_
  refine wl_nil ?_
  refine wx_then ?_
  refine wc_seq ?_
  refine wc_region ?_
  refine wl_pure tt_ok rfl rfl ?_
  replace h := bsome h; obtain ⟨v16, x16, h⟩ := h
  refine wl_cs Try.call14 rfl rfl rfl (s_sp (k_hindcastref24_New x16) pNil (fun _ _ => trivial)) rfl ?_
  rintro _ _ ⟨_, ⟨b16_0, v16a0, v16n0, v16c0, v16B0, v16N0, v16V0, rfl, rfl⟩, rfl⟩
  refine wl_pure tt_ok rfl rfl ?_
  refine wl_nil ?_
  refine wx_then ?_
  refine wc_seq ?_
  refine wc_seq ?_
  refine wc_region ?_
  refine wl_pure tt_ok rfl rfl ?_
  refine wl_pure (v := .bool false) tt_ok rfl rfl ?_
  refine wl_nil ?_
  refine wx_then ?_
  refine wc_cond_false rfl ?_
  refine wc_skip ?_
  refine wx_then ?_
  refine wc_seq ?_
  refine wc_seq ?_
  refine wc_region ?_
  refine wl_pure tt_ok rfl rfl ?_
  refine wl_val (v := .int .i64 (p1.length : Int)) (val_len tt_ok rfl rfl p1N0) rfl ?_
  refine wl_pure (v := .bool (decide ((200 : Int) < (p1.length : Int)))) tt_ok rfl rfl ?_
  refine wl_nil ?_
  refine wx_then ?_
  refine wc_cond rfl (fun hc => ?_) (fun hc => ?_)
  · replace h := ct hc h
    refine wc_seq ?_
    refine wc_region ?_
    replace h := bsome h; obtain ⟨v22, x22, h⟩ := h
    refine wl_cq Try.call7 rfl rfl rfl (q_pf (k_hindcastlaw24_works x22) (fun _ _ => trivial)) rfl ?_
    refine wl_pure tt_ok rfl rfl ?_
    refine wl_nil ?_
    refine wx_then ?_
    refine wc_ret ?_
    refine wx_then_ret ?_
    simp only [Option.some.injEq] at h
    obtain rfl := h
    exact wx_pf tt_ok (.inl rfl) Try.results4 (Res.tmp rfl Res.nil) rfl
  · replace h := cf hc h
    refine wc_skip ?_
    refine wx_then ?_
    refine wc_seq ?_
    refine wc_seq ?_
    refine wc_region ?_
    refine wl_pure tt_ok rfl rfl ?_
    refine wl_nil ?_
    refine wx_then ?_
    refine wc_block ?_
    replace h := bsome h; obtain ⟨o27, h, hl27⟩ := h
    refine wc_loop (fun m E L => ∃ (j27_7 : Int) (j27_n14_0 : T_queue_Queue) (j27_n16_0 : T_hindcastref24_Queue) (j27_n14_0a0 : Option Addr) (j27_n14_0n0 : Nat) (j27_n14_0c0 : Nat) (j27_n14_0B0 : List Blk) (j27_n16_0a0 : Option Addr) (j27_n16_0n0 : Nat) (j27_n16_0c0 : Nat) (j27_n16_0B0 : List Blk), m_hindcastlaw24_QueuePlays_L26 F p1 m j27_7 j27_n14_0 j27_n16_0 = some o27 ∧ j27_n14_0n0 = j27_n14_0.l.length ∧ Own 31 1 j27_n14_0a0 j27_n14_0n0 j27_n14_0c0 (flat (e1 .u8) j27_n14_0.l) j27_n14_0B0 ∧ j27_n16_0n0 = j27_n16_0.L.length ∧ Own 31 1 j27_n16_0a0 j27_n16_0n0 j27_n16_0c0 (flat (e1 .u8) j27_n16_0.L) j27_n16_0B0 ∧ E = [(1, .slice p1a0 p1n0 p1c0), (4, .bool false), (5, .pointer (some ⟨b14_0, 0, none⟩)), (6, .pointer (some ⟨b16_0, 0, none⟩)), (7, .int .i64 j27_7)] ∧ L = (⟨b14_0, [.int .u64 j27_n14_0.first_, .slice j27_n14_0a0 j27_n14_0n0 j27_n14_0c0, .int .u8 j27_n14_0.last], 52, (0, 0)⟩ :: (⟨b16_0, [.int .u64 j27_n16_0.Begin, .int .u64 j27_n16_0.First, .slice j27_n16_0a0 j27_n16_0n0 j27_n16_0c0], 46, (0, 0)⟩ :: (j27_n14_0B0 ++ (j27_n16_0B0 ++ []))))) F ⟨(0 : Int), v14, v16, v14a0, v14n0, v14c0, v14B0, v16a0, v16n0, v16c0, v16B0, h, v14N0, v14V0, v16N0, v16V0, rfl, rfl⟩ (agree_cons rfl (agree_cons rfl (agree_cons rfl (agree_cons rfl (agree_cons rfl agree_nil))))) (pSub (pCons (Sel.sc (Sel.sa Sel.hc)) (pCons Sel.hc (pApp (Sel.sa Sel.ha) (pApp Sel.ha pNil))))) ?_
    clear h
    rintro m27 _ _ ⟨j27_7, j27_n14_0, j27_n16_0, j27_n14_0a0, j27_n14_0n0, j27_n14_0c0, j27_n14_0B0, j27_n16_0a0, j27_n16_0n0, j27_n16_0c0, j27_n16_0B0, h, j27_n14_0N0, j27_n14_0V0, j27_n16_0N0, j27_n16_0V0, rfl, rfl⟩
    rcases m27 with _ | m27
    · rw [m_hindcastlaw24_QueuePlays_L26.eq_1] at h; cases h
    rw [m_hindcastlaw24_QueuePlays_L26.eq_2] at h
    refine wc_seq ?_
    refine wc_seq ?_
    refine wc_region ?_
    refine wl_pure tt_ok rfl rfl ?_
    refine wl_pure tt_ok rfl rfl ?_
    refine wl_val (v := .int .i64 (p1.length : Int)) (val_len tt_ok rfl rfl p1N0) rfl ?_
    refine wl_pure (v := .bool (decide (j27_7 < (p1.length : Int)))) tt_ok rfl rfl ?_
    refine wl_nil ?_
    refine wx_then ?_
    refine wc_cond rfl (fun hc => ?_) (fun hc => ?_)
    · replace h := ct hc h
      refine wc_skip ?_
      refine wx_then ?_
      refine wc_seq ?_
      refine wc_block ?_
      refine wc_seq ?_
      refine wc_region ?_
      refine wl_pure tt_ok rfl rfl ?_
      refine wl_pure tt_ok rfl rfl ?_
      replace h := bsome h; obtain ⟨v31, x31, h⟩ := h
      refine wl_val (v := .pointer (some ((adOf p1a0).add (j27_7.toNat * 5 + 0)))) (val_ix (enc := c_T_hindcastlaw24_Act) tt_ok rfl rfl rfl rfl p1N0 p1S0 c_T_hindcastlaw24_Act_len rfl x31) rfl ?_
      refine wl_val (v := .agg #[.int .u8 v31.What, .int .u64 v31.F, .int .u64 v31.Ask, .int .u8 v31.I, .int .i64 v31.N]) (val_le (enc := c_T_hindcastlaw24_Act) (xs := p1) tt_ok rfl p1S0 rsub_nil c_T_hindcastlaw24_Act_len x31 rfl) rfl ?_
      refine wl_alloc tt_ok rfl rfl (fun b8 => ?_)
      apply wl_store tt_ok; rfl; exact Upd.here; rfl; rfl; rfl; rfl; rfl; rfl
      refine wl_nil ?_
      refine wx_then ?_
      refine wc_seq ?_
      refine wc_seq ?_
      refine wc_region ?_
      refine wl_pure (v := .pointer (some ⟨b8, 0, none⟩)) tt_ok rfl rfl ?_
      refine wl_val (v := .int .u8 v31.What) (val_load tt_ok rfl (List.Mem.head _) rfl) rfl ?_
      refine wl_pure (v := .int .u8 (Int.tmod v31.What 4)) tt_ok rfl rfl ?_
      refine wl_pure (v := .bool (decide ((Int.tmod v31.What 4) < (3 : Int)))) tt_ok rfl rfl ?_
      refine wl_nil ?_
      refine wx_then ?_
      refine wc_cond rfl (fun hc => ?_) (fun hc => ?_)
      · replace h := ct hc h
        refine wc_seq ?_
        refine wc_k2 (Ls := (⟨b8, [.int .u8 v31.What, .int .u64 v31.F, .int .u64 v31.Ask, .int .u8 v31.I, .int .i64 v31.N], 40, (0, 0)⟩ :: [])) [5, 11] [] [0, 0, 2, 0, 8, 31, 0, 0, 128, 0, 512, 2047, 4095] [0, 1, 2, 3, 4, 6, 7, 8, 9, 10, 5, 11, 12] (by kernel_rfl) (by kernel_rfl) (by kernel_rfl) ?_
        refine k_val rfl rfl rfl (pSub (pCons Sel.hc pNil)) (stepV_ok tt_ok rfl) rfl ?_
        refine k_val (v := .pointer (some ⟨b8, 1, none⟩)) rfl rfl rfl (pSub (pCons Sel.hc pNil)) (stepV_ok tt_ok rfl) rfl ?_
        refine k_val (v := .int .u64 v31.F) rfl rfl rfl (pSub (pCons Sel.hc pNil)) (val_load tt_ok rfl (List.Mem.head _) rfl) rfl ?_
        refine k_val (v := .pointer (some ⟨b8, 3, none⟩)) rfl rfl rfl (pSub (pCons Sel.hc pNil)) (stepV_ok tt_ok rfl) rfl ?_
        refine k_val (v := .int .u8 v31.I) rfl rfl rfl (pSub (pCons Sel.hc pNil)) (val_load tt_ok rfl (List.Mem.head _) rfl) rfl ?_
        refine k_val rfl rfl rfl (pSub (pCons Sel.hc pNil)) (stepV_ok tt_ok rfl) rfl ?_
        refine k_val (v := .pointer (some ⟨b8, 1, none⟩)) rfl rfl rfl (pSub (pCons Sel.hc pNil)) (stepV_ok tt_ok rfl) rfl ?_
        refine k_val (v := .int .u64 v31.F) rfl rfl rfl (pSub (pCons Sel.hc pNil)) (val_load tt_ok rfl (List.Mem.head _) rfl) rfl ?_
        refine k_val (v := .pointer (some ⟨b8, 3, none⟩)) rfl rfl rfl (pSub (pCons Sel.hc pNil)) (stepV_ok tt_ok rfl) rfl ?_
        refine k_val (v := .int .u8 v31.I) rfl rfl rfl (pSub (pCons Sel.hc pNil)) (val_load tt_ok rfl (List.Mem.head _) rfl) rfl ?_
        replace h := bsome h; obtain ⟨⟨o42_0, v42⟩, x42, h⟩ := h; try dsimp only at h
        refine k_cs rfl rfl rfl Try.call10 rfl rfl rfl (s_sp (k_queue_Queue_Add j27_n14_0N0 j27_n14_0V0 x42) (pCons (Sel.sc Sel.hc) (pApp (Sel.sc (Sel.sc Sel.ha)) pNil)) (fun _ _ => trivial)) rfl (.inr (by rintro _ _ ⟨_, ⟨_, _, _, _, _, _, rfl, rfl⟩, rfl⟩; exact ⟨_, (pCons (Sel.sc (Sel.sa Sel.hc)) pNil)⟩)) ?_
        rintro _ _ ⟨_, ⟨o42_0a0, o42_0n0, o42_0c0, o42_0B0, o42_0N0, o42_0V0, rfl, rfl⟩, rfl⟩
        replace h := bsome h; obtain ⟨⟨o48_0, v48⟩, x48, h⟩ := h; try dsimp only at h
        refine k_cs rfl rfl rfl Try.call15 rfl rfl rfl (s_sp (k_hindcastref24_Queue_Add j27_n16_0N0 j27_n16_0V0 x48) (pCons (Sel.sc (Sel.sa (Sel.sc Sel.hc))) (pApp (Sel.sc (Sel.sa (Sel.sc Sel.ha))) pNil)) (fun _ _ => trivial)) rfl (.inr (by rintro _ _ ⟨_, ⟨_, _, _, _, _, _, rfl, rfl⟩, rfl⟩; exact ⟨_, (pCons (Sel.sc (Sel.sa (Sel.sc (Sel.sa Sel.hc)))) pNil)⟩)) ?_
        rintro _ _ ⟨_, ⟨o48_0a0, o48_0n0, o48_0c0, o48_0B0, o48_0N0, o48_0V0, rfl, rfl⟩, rfl⟩
        refine k_val (v := .bool (v42 != v48)) rfl rfl rfl (pSub (pCons (Sel.sc (Sel.sa (Sel.sc (Sel.sa Sel.hc)))) pNil)) (stepV_ok tt_ok rfl) rfl ?_
        refine k_end ?_
        refine wx_then ?_
        refine wc_cond rfl (fun hc => ?_) (fun hc => ?_)
        · replace h := ct hc h
          refine wc_seq ?_
          refine wc_region ?_
          refine wl_pure tt_ok rfl rfl ?_
          refine wl_nil ?_
          refine wx_then ?_
          refine wc_ret ?_
          refine wx_then_ret ?_
          refine wx_block_ret ?_
          refine wx_then_ret ?_
          obtain rfl := Option.some.inj h
          have h := hl27; clear hl27; try dsimp only [orE_l, orE_r] at h
          refine wx_then_ret ?_
          refine wx_block_ret ?_
          refine wx_then_ret ?_
          simp only [Option.some.injEq] at h
          obtain rfl := h
          exact wx_pf tt_ok (.inl rfl) Try.results4 (Res.tmp rfl Res.nil) rfl
        · replace h := cf hc h
          refine wc_skip ?_
          refine wx_then ?_
          refine wc_seq ?_
          refine wc_region ?_
          refine wl_pure tt_ok rfl rfl ?_
          refine wl_pure (v := .pointer (some ⟨b8, 2, none⟩)) tt_ok rfl rfl ?_
          refine wl_val (v := .int .u64 v31.Ask) (val_load tt_ok rfl (List.Mem.tail _ (mR (List.Mem.tail _ (mR (List.Mem.head _))))) rfl) rfl ?_
          replace h := bsome h; obtain ⟨⟨v62_0, v62_1⟩, x62, h⟩ := h; try dsimp only at h
          refine wl_cq Try.call18 rfl rfl rfl (q_rd (k_queue_Queue_At o42_0N0 o42_0V0 x62) (pCons (Sel.sc (Sel.sa Sel.hc)) (pApp (Sel.sc (Sel.sa Sel.ha)) pNil)) (fun _ _ => trivial)) rfl ?_
          refine wl_pure tt_ok rfl rfl ?_
          refine wl_pure tt_ok rfl rfl ?_
          refine wl_pure tt_ok rfl rfl ?_
          refine wl_pure tt_ok rfl rfl ?_
          refine wl_pure tt_ok rfl rfl ?_
          refine wl_nil ?_
          refine wx_then ?_
          refine wc_seq ?_
          refine wc_region ?_
          refine wl_pure tt_ok rfl rfl ?_
          refine wl_pure (v := .pointer (some ⟨b8, 2, none⟩)) tt_ok rfl rfl ?_
          refine wl_val (v := .int .u64 v31.Ask) (val_load tt_ok rfl (List.Mem.tail _ (mR (List.Mem.tail _ (mR (List.Mem.head _))))) rfl) rfl ?_
          replace h := bsome h; obtain ⟨⟨v69_0, v69_1⟩, x69, h⟩ := h; try dsimp only at h
          refine wl_cq Try.call19 rfl rfl rfl (q_rd (k_hindcastref24_Queue_At o48_0N0 o48_0V0 x69) (pCons Sel.hc (pApp Sel.ha pNil)) (fun _ _ => trivial)) rfl ?_
          refine wl_pure tt_ok rfl rfl ?_
          refine wl_pure tt_ok rfl rfl ?_
          refine wl_pure tt_ok rfl rfl ?_
          refine wl_pure tt_ok rfl rfl ?_
          refine wl_pure tt_ok rfl rfl ?_
          refine wl_nil ?_
          refine wx_then ?_
          refine wc_seq ?_
          refine wc_k2 (Ls := (⟨b16_0, [.int .u64 o48_0.Begin, .int .u64 o48_0.First, .slice o48_0a0 o48_0n0 o48_0c0], 46, (0, 0)⟩ :: (o48_0B0 ++ (⟨b14_0, [.int .u64 o42_0.first_, .slice o42_0a0 o42_0n0 o42_0c0, .int .u8 o42_0.last], 52, (0, 0)⟩ :: (o42_0B0 ++ (⟨b8, [.int .u8 v31.What, .int .u64 v31.F, .int .u64 v31.Ask, .int .u8 v31.I, .int .i64 v31.N], 40, (0, 0)⟩ :: [])))))) [10, 19, 21, 28, 32, 41, 47, 48] [] [0, 0, 3, 7, 15, 15, 63, 127, 255, 511, 1023, 511, 2559, 6655, 14847, 32767, 65535, 131071, 262143, 524287, 262143, 2097151, 4194303, 8388607, 16777215, 33554431, 33554431, 100663295, 268435455, 33554431, 33554431, 1107296255, 4294967295, 8589934591, 17179869183, 34359738367, 68719476735, 68719476735, 206158430207, 68719476735, 618475290623, 2199023255551, 68719476735, 68719476735, 8864812498943, 68719476735, 35253091565567, 140737488355327, 281474976710655, 562949953421311, 1125899906842623] [0, 1, 2, 3, 4, 5, 6, 7, 8, 9, 11, 12, 13, 14, 10, 15, 16, 17, 18, 20, 19, 21, 22, 23, 24, 25, 26, 27, 29, 30, 31, 28, 32, 33, 34, 35, 36, 37, 38, 39, 40, 42, 43, 44, 45, 46, 41, 47, 48, 49, 50] (by kernel_rfl) (by kernel_rfl) (by kernel_rfl) ?_
          refine k_val rfl rfl rfl (pSub (pCons Sel.hc (pApp Sel.ha (pCons Sel.hc (pApp Sel.ha (pCons Sel.hc pNil)))))) (stepV_ok tt_ok rfl) rfl ?_
          refine k_val rfl rfl rfl (pSub (pCons Sel.hc (pApp Sel.ha (pCons Sel.hc (pApp Sel.ha (pCons Sel.hc pNil)))))) (stepV_ok tt_ok rfl) rfl ?_
          refine k_val (v := .bool (v62_0 != v69_0)) rfl rfl rfl (pSub (pCons Sel.hc (pApp Sel.ha (pCons Sel.hc (pApp Sel.ha (pCons Sel.hc pNil)))))) (stepV_ok tt_ok rfl) rfl ?_
          refine k_val rfl rfl rfl (pSub (pCons Sel.hc (pApp Sel.ha (pCons Sel.hc (pApp Sel.ha (pCons Sel.hc pNil)))))) (stepV_ok tt_ok rfl) rfl ?_
          replace h := bsome h; obtain ⟨v79, h, hg79⟩ := h
          refine k_split (t := 75) rfl (fun hc => ?_) (fun hc => ?_)
          · replace h := ct hc h
            refine k_skip rfl rfl (pSub (pCons Sel.hc (pApp Sel.ha (pCons Sel.hc (pApp Sel.ha (pCons Sel.hc pNil)))))) rfl ?_
            refine k_skip rfl rfl (pSub (pCons Sel.hc (pApp Sel.ha (pCons Sel.hc (pApp Sel.ha (pCons Sel.hc pNil)))))) rfl ?_
            refine k_skip rfl rfl (pSub (pCons Sel.hc (pApp Sel.ha (pCons Sel.hc (pApp Sel.ha (pCons Sel.hc pNil)))))) rfl ?_
            simp only [Option.some.injEq, Prod.mk.injEq] at h
            obtain rfl := h
            have h := hg79; clear hg79
            refine k_val (v := .bool true) rfl rfl rfl (pSub (pCons Sel.hc (pApp Sel.ha (pCons Sel.hc (pApp Sel.ha (pCons Sel.hc pNil)))))) (stepV_ok tt_ok rfl) rfl ?_
            refine k_val rfl rfl rfl (pSub (pCons Sel.hc (pApp Sel.ha (pCons Sel.hc (pApp Sel.ha (pCons Sel.hc pNil)))))) (stepV_ok tt_ok rfl) rfl ?_
            replace h := bsome h; obtain ⟨v88, h, hg88⟩ := h
            replace h := ct rfl h
            refine k_skip rfl rfl (pSub (pCons Sel.hc (pApp Sel.ha (pCons Sel.hc (pApp Sel.ha (pCons Sel.hc pNil)))))) rfl ?_
            refine k_skip rfl rfl (pSub (pCons Sel.hc (pApp Sel.ha (pCons Sel.hc (pApp Sel.ha (pCons Sel.hc pNil)))))) rfl ?_
            refine k_skip rfl rfl (pSub (pCons Sel.hc (pApp Sel.ha (pCons Sel.hc (pApp Sel.ha (pCons Sel.hc pNil)))))) rfl ?_
            refine k_skip rfl rfl (pSub (pCons Sel.hc (pApp Sel.ha (pCons Sel.hc (pApp Sel.ha (pCons Sel.hc pNil)))))) rfl ?_
            refine k_skip rfl rfl (pSub (pCons Sel.hc (pApp Sel.ha (pCons Sel.hc (pApp Sel.ha (pCons Sel.hc pNil)))))) rfl ?_
            refine k_skip rfl rfl (pSub (pCons Sel.hc (pApp Sel.ha (pCons Sel.hc (pApp Sel.ha (pCons Sel.hc pNil)))))) rfl ?_
            refine k_skip rfl rfl (pSub (pCons Sel.hc (pApp Sel.ha (pCons Sel.hc (pApp Sel.ha (pCons Sel.hc pNil)))))) rfl ?_
            simp only [Option.some.injEq, Prod.mk.injEq] at h
            obtain rfl := h
            have h := hg88; clear hg88
            refine k_val (v := .bool true) rfl rfl rfl (pSub (pCons Sel.hc (pApp Sel.ha (pCons Sel.hc (pApp Sel.ha (pCons Sel.hc pNil)))))) (stepV_ok tt_ok rfl) rfl ?_
            refine k_val rfl rfl rfl (pSub (pCons Sel.hc (pApp Sel.ha (pCons Sel.hc (pApp Sel.ha (pCons Sel.hc pNil)))))) (stepV_ok tt_ok rfl) rfl ?_
            replace h := bsome h; obtain ⟨v95, h, hg95⟩ := h
            replace h := ct rfl h
            refine k_skip rfl rfl (pSub (pCons Sel.hc (pApp Sel.ha (pCons Sel.hc (pApp Sel.ha (pCons Sel.hc pNil)))))) rfl ?_
            refine k_skip rfl rfl (pSub (pCons Sel.hc (pApp Sel.ha (pCons Sel.hc (pApp Sel.ha (pCons Sel.hc pNil)))))) rfl ?_
            refine k_skip rfl rfl (pSub (pCons Sel.hc (pApp Sel.ha (pCons Sel.hc (pApp Sel.ha (pCons Sel.hc pNil)))))) rfl ?_
            refine k_skip rfl rfl (pSub (pCons Sel.hc (pApp Sel.ha (pCons Sel.hc (pApp Sel.ha (pCons Sel.hc pNil)))))) rfl ?_
            refine k_skip rfl rfl (pSub (pCons Sel.hc (pApp Sel.ha (pCons Sel.hc (pApp Sel.ha (pCons Sel.hc pNil)))))) rfl ?_
            simp only [Option.some.injEq, Prod.mk.injEq] at h
            obtain rfl := h
            have h := hg95; clear hg95
            refine k_val (v := .bool true) rfl rfl rfl (pSub (pCons Sel.hc (pApp Sel.ha (pCons Sel.hc (pApp Sel.ha (pCons Sel.hc pNil)))))) (stepV_ok tt_ok rfl) rfl ?_
            refine k_val rfl rfl rfl (pSub (pCons Sel.hc (pApp Sel.ha (pCons Sel.hc (pApp Sel.ha (pCons Sel.hc pNil)))))) (stepV_ok tt_ok rfl) rfl ?_
            replace h := bsome h; obtain ⟨v106, h, hg106⟩ := h
            replace h := ct rfl h
            refine k_skip rfl rfl (pSub (pCons Sel.hc (pApp Sel.ha (pCons Sel.hc (pApp Sel.ha (pCons Sel.hc pNil)))))) rfl ?_
            refine k_skip rfl rfl (pSub (pCons Sel.hc (pApp Sel.ha (pCons Sel.hc (pApp Sel.ha (pCons Sel.hc pNil)))))) rfl ?_
            refine k_skip rfl rfl (pSub (pCons Sel.hc (pApp Sel.ha (pCons Sel.hc (pApp Sel.ha (pCons Sel.hc pNil)))))) rfl ?_
            refine k_skip rfl rfl (pSub (pCons Sel.hc (pApp Sel.ha (pCons Sel.hc (pApp Sel.ha (pCons Sel.hc pNil)))))) rfl ?_
            refine k_skip rfl rfl (pSub (pCons Sel.hc (pApp Sel.ha (pCons Sel.hc (pApp Sel.ha (pCons Sel.hc pNil)))))) rfl ?_
            refine k_skip rfl rfl (pSub (pCons Sel.hc (pApp Sel.ha (pCons Sel.hc (pApp Sel.ha (pCons Sel.hc pNil)))))) rfl ?_
            refine k_skip rfl rfl (pSub (pCons Sel.hc (pApp Sel.ha (pCons Sel.hc (pApp Sel.ha (pCons Sel.hc pNil)))))) rfl ?_
            refine k_skip rfl rfl (pSub (pCons Sel.hc (pApp Sel.ha (pCons Sel.hc (pApp Sel.ha (pCons Sel.hc pNil)))))) rfl ?_
            refine k_skip rfl rfl (pSub (pCons Sel.hc (pApp Sel.ha (pCons Sel.hc (pApp Sel.ha (pCons Sel.hc pNil)))))) rfl ?_
            simp only [Option.some.injEq, Prod.mk.injEq] at h
            obtain rfl := h
            have h := hg106; clear hg106
            refine k_val (v := .bool true) rfl rfl rfl (pSub (pCons Sel.hc (pApp Sel.ha (pCons Sel.hc (pApp Sel.ha (pCons Sel.hc pNil)))))) (stepV_ok tt_ok rfl) rfl ?_
            refine k_val rfl rfl rfl (pSub (pCons Sel.hc (pApp Sel.ha (pCons Sel.hc (pApp Sel.ha (pCons Sel.hc pNil)))))) (stepV_ok tt_ok rfl) rfl ?_
            replace h := bsome h; obtain ⟨v122, h, hg122⟩ := h
            replace h := ct rfl h
            refine k_skip rfl rfl (pSub (pCons Sel.hc (pApp Sel.ha (pCons Sel.hc (pApp Sel.ha (pCons Sel.hc pNil)))))) rfl ?_
            refine k_skip rfl rfl (pSub (pCons Sel.hc (pApp Sel.ha (pCons Sel.hc (pApp Sel.ha (pCons Sel.hc pNil)))))) rfl ?_
            refine k_skip rfl rfl (pSub (pCons Sel.hc (pApp Sel.ha (pCons Sel.hc (pApp Sel.ha (pCons Sel.hc pNil)))))) rfl ?_
            refine k_skip rfl rfl (pSub (pCons Sel.hc (pApp Sel.ha (pCons Sel.hc (pApp Sel.ha (pCons Sel.hc pNil)))))) rfl ?_
            refine k_skip rfl rfl (pSub (pCons Sel.hc (pApp Sel.ha (pCons Sel.hc (pApp Sel.ha (pCons Sel.hc pNil)))))) rfl ?_
            refine k_skip rfl rfl (pSub (pCons Sel.hc (pApp Sel.ha (pCons Sel.hc (pApp Sel.ha (pCons Sel.hc pNil)))))) rfl ?_
            refine k_skip rfl rfl (pSub (pCons Sel.hc (pApp Sel.ha (pCons Sel.hc (pApp Sel.ha (pCons Sel.hc pNil)))))) rfl ?_
            refine k_skip rfl rfl (pSub (pCons Sel.hc (pApp Sel.ha (pCons Sel.hc (pApp Sel.ha (pCons Sel.hc pNil)))))) rfl ?_
            refine k_skip rfl rfl (pSub (pCons Sel.hc (pApp Sel.ha (pCons Sel.hc (pApp Sel.ha (pCons Sel.hc pNil)))))) rfl ?_
            refine k_skip rfl rfl (pSub (pCons Sel.hc (pApp Sel.ha (pCons Sel.hc (pApp Sel.ha (pCons Sel.hc pNil)))))) rfl ?_
            refine k_skip rfl rfl (pSub (pCons Sel.hc (pApp Sel.ha (pCons Sel.hc (pApp Sel.ha (pCons Sel.hc pNil)))))) rfl ?_
            refine k_skip rfl rfl (pSub (pCons Sel.hc (pApp Sel.ha (pCons Sel.hc (pApp Sel.ha (pCons Sel.hc pNil)))))) rfl ?_
            refine k_skip rfl rfl (pSub (pCons Sel.hc (pApp Sel.ha (pCons Sel.hc (pApp Sel.ha (pCons Sel.hc pNil)))))) rfl ?_
            refine k_skip rfl rfl (pSub (pCons Sel.hc (pApp Sel.ha (pCons Sel.hc (pApp Sel.ha (pCons Sel.hc pNil)))))) rfl ?_
            simp only [Option.some.injEq, Prod.mk.injEq] at h
            obtain rfl := h
            have h := hg122; clear hg122
            refine k_val (v := .bool true) rfl rfl rfl (pSub (pCons Sel.hc (pApp Sel.ha (pCons Sel.hc (pApp Sel.ha (pCons Sel.hc pNil)))))) (stepV_ok tt_ok rfl) rfl ?_
            refine k_end ?_
            refine wx_then ?_
            replace h := ct rfl h
            refine wc_cond_true rfl ?_
            refine wc_seq ?_
            refine wc_region ?_
            refine wl_pure tt_ok rfl rfl ?_
            refine wl_nil ?_
            refine wx_then ?_
            refine wc_ret ?_
            refine wx_block_ret ?_
            refine wx_then_ret ?_
            obtain rfl := Option.some.inj h
            have h := hl27; clear hl27; try dsimp only [orE_l, orE_r] at h
            refine wx_then_ret ?_
            refine wx_block_ret ?_
            refine wx_then_ret ?_
            simp only [Option.some.injEq] at h
            obtain rfl := h
            exact wx_pf tt_ok (.inl rfl) Try.results4 (Res.tmp rfl Res.nil) rfl
          · replace h := cf hc h
            refine k_val rfl rfl rfl (pSub (pCons Sel.hc (pApp Sel.ha (pCons Sel.hc (pApp Sel.ha (pCons Sel.hc pNil)))))) (stepV_ok tt_ok rfl) rfl ?_
            refine k_val rfl rfl rfl (pSub (pCons Sel.hc (pApp Sel.ha (pCons Sel.hc (pApp Sel.ha (pCons Sel.hc pNil)))))) (stepV_ok tt_ok rfl) rfl ?_
            refine k_val (v := .bool (v62_1 != v69_1)) rfl rfl rfl (pSub (pCons Sel.hc (pApp Sel.ha (pCons Sel.hc (pApp Sel.ha (pCons Sel.hc pNil)))))) (stepV_ok tt_ok rfl) rfl ?_
            simp only [Option.some.injEq, Prod.mk.injEq] at h
            obtain rfl := h
            have h := hg79; clear hg79
            refine k_val (v := .bool (v62_1 != v69_1)) rfl rfl rfl (pSub (pCons Sel.hc (pApp Sel.ha (pCons Sel.hc (pApp Sel.ha (pCons Sel.hc pNil)))))) (stepV_ok tt_ok rfl) rfl ?_
            refine k_val rfl rfl rfl (pSub (pCons Sel.hc (pApp Sel.ha (pCons Sel.hc (pApp Sel.ha (pCons Sel.hc pNil)))))) (stepV_ok tt_ok rfl) rfl ?_
            replace h := bsome h; obtain ⟨v88, h, hg88⟩ := h
            refine k_split (t := 80) rfl (fun hc => ?_) (fun hc => ?_)
            · replace h := ct hc h
              refine k_skip rfl rfl (pSub (pCons Sel.hc (pApp Sel.ha (pCons Sel.hc (pApp Sel.ha (pCons Sel.hc pNil)))))) rfl ?_
              refine k_skip rfl rfl (pSub (pCons Sel.hc (pApp Sel.ha (pCons Sel.hc (pApp Sel.ha (pCons Sel.hc pNil)))))) rfl ?_
              refine k_skip rfl rfl (pSub (pCons Sel.hc (pApp Sel.ha (pCons Sel.hc (pApp Sel.ha (pCons Sel.hc pNil)))))) rfl ?_
              refine k_skip rfl rfl (pSub (pCons Sel.hc (pApp Sel.ha (pCons Sel.hc (pApp Sel.ha (pCons Sel.hc pNil)))))) rfl ?_
              refine k_skip rfl rfl (pSub (pCons Sel.hc (pApp Sel.ha (pCons Sel.hc (pApp Sel.ha (pCons Sel.hc pNil)))))) rfl ?_
              refine k_skip rfl rfl (pSub (pCons Sel.hc (pApp Sel.ha (pCons Sel.hc (pApp Sel.ha (pCons Sel.hc pNil)))))) rfl ?_
              refine k_skip rfl rfl (pSub (pCons Sel.hc (pApp Sel.ha (pCons Sel.hc (pApp Sel.ha (pCons Sel.hc pNil)))))) rfl ?_
              simp only [Option.some.injEq, Prod.mk.injEq] at h
              obtain rfl := h
              have h := hg88; clear hg88
              refine k_val (v := .bool true) rfl rfl rfl (pSub (pCons Sel.hc (pApp Sel.ha (pCons Sel.hc (pApp Sel.ha (pCons Sel.hc pNil)))))) (stepV_ok tt_ok rfl) rfl ?_
              refine k_val rfl rfl rfl (pSub (pCons Sel.hc (pApp Sel.ha (pCons Sel.hc (pApp Sel.ha (pCons Sel.hc pNil)))))) (stepV_ok tt_ok rfl) rfl ?_
              replace h := bsome h; obtain ⟨v95, h, hg95⟩ := h
              replace h := ct rfl h
              refine k_skip rfl rfl (pSub (pCons Sel.hc (pApp Sel.ha (pCons Sel.hc (pApp Sel.ha (pCons Sel.hc pNil)))))) rfl ?_
              refine k_skip rfl rfl (pSub (pCons Sel.hc (pApp Sel.ha (pCons Sel.hc (pApp Sel.ha (pCons Sel.hc pNil)))))) rfl ?_
              refine k_skip rfl rfl (pSub (pCons Sel.hc (pApp Sel.ha (pCons Sel.hc (pApp Sel.ha (pCons Sel.hc pNil)))))) rfl ?_
              refine k_skip rfl rfl (pSub (pCons Sel.hc (pApp Sel.ha (pCons Sel.hc (pApp Sel.ha (pCons Sel.hc pNil)))))) rfl ?_
              refine k_skip rfl rfl (pSub (pCons Sel.hc (pApp Sel.ha (pCons Sel.hc (pApp Sel.ha (pCons Sel.hc pNil)))))) rfl ?_
              simp only [Option.some.injEq, Prod.mk.injEq] at h
              obtain rfl := h
              have h := hg95; clear hg95
              refine k_val (v := .bool true) rfl rfl rfl (pSub (pCons Sel.hc (pApp Sel.ha (pCons Sel.hc (pApp Sel.ha (pCons Sel.hc pNil)))))) (stepV_ok tt_ok rfl) rfl ?_
              refine k_val rfl rfl rfl (pSub (pCons Sel.hc (pApp Sel.ha (pCons Sel.hc (pApp Sel.ha (pCons Sel.hc pNil)))))) (stepV_ok tt_ok rfl) rfl ?_
              replace h := bsome h; obtain ⟨v106, h, hg106⟩ := h
              replace h := ct rfl h
              refine k_skip rfl rfl (pSub (pCons Sel.hc (pApp Sel.ha (pCons Sel.hc (pApp Sel.ha (pCons Sel.hc pNil)))))) rfl ?_
              refine k_skip rfl rfl (pSub (pCons Sel.hc (pApp Sel.ha (pCons Sel.hc (pApp Sel.ha (pCons Sel.hc pNil)))))) rfl ?_
              refine k_skip rfl rfl (pSub (pCons Sel.hc (pApp Sel.ha (pCons Sel.hc (pApp Sel.ha (pCons Sel.hc pNil)))))) rfl ?_
              refine k_skip rfl rfl (pSub (pCons Sel.hc (pApp Sel.ha (pCons Sel.hc (pApp Sel.ha (pCons Sel.hc pNil)))))) rfl ?_
              refine k_skip rfl rfl (pSub (pCons Sel.hc (pApp Sel.ha (pCons Sel.hc (pApp Sel.ha (pCons Sel.hc pNil)))))) rfl ?_
              refine k_skip rfl rfl (pSub (pCons Sel.hc (pApp Sel.ha (pCons Sel.hc (pApp Sel.ha (pCons Sel.hc pNil)))))) rfl ?_
              refine k_skip rfl rfl (pSub (pCons Sel.hc (pApp Sel.ha (pCons Sel.hc (pApp Sel.ha (pCons Sel.hc pNil)))))) rfl ?_
              refine k_skip rfl rfl (pSub (pCons Sel.hc (pApp Sel.ha (pCons Sel.hc (pApp Sel.ha (pCons Sel.hc pNil)))))) rfl ?_
              refine k_skip rfl rfl (pSub (pCons Sel.hc (pApp Sel.ha (pCons Sel.hc (pApp Sel.ha (pCons Sel.hc pNil)))))) rfl ?_
              simp only [Option.some.injEq, Prod.mk.injEq] at h
              obtain rfl := h
              have h := hg106; clear hg106
              refine k_val (v := .bool true) rfl rfl rfl (pSub (pCons Sel.hc (pApp Sel.ha (pCons Sel.hc (pApp Sel.ha (pCons Sel.hc pNil)))))) (stepV_ok tt_ok rfl) rfl ?_
              refine k_val rfl rfl rfl (pSub (pCons Sel.hc (pApp Sel.ha (pCons Sel.hc (pApp Sel.ha (pCons Sel.hc pNil)))))) (stepV_ok tt_ok rfl) rfl ?_
              replace h := bsome h; obtain ⟨v122, h, hg122⟩ := h
              replace h := ct rfl h
              refine k_skip rfl rfl (pSub (pCons Sel.hc (pApp Sel.ha (pCons Sel.hc (pApp Sel.ha (pCons Sel.hc pNil)))))) rfl ?_
              refine k_skip rfl rfl (pSub (pCons Sel.hc (pApp Sel.ha (pCons Sel.hc (pApp Sel.ha (pCons Sel.hc pNil)))))) rfl ?_
              refine k_skip rfl rfl (pSub (pCons Sel.hc (pApp Sel.ha (pCons Sel.hc (pApp Sel.ha (pCons Sel.hc pNil)))))) rfl ?_
              refine k_skip rfl rfl (pSub (pCons Sel.hc (pApp Sel.ha (pCons Sel.hc (pApp Sel.ha (pCons Sel.hc pNil)))))) rfl ?_
              refine k_skip rfl rfl (pSub (pCons Sel.hc (pApp Sel.ha (pCons Sel.hc (pApp Sel.ha (pCons Sel.hc pNil)))))) rfl ?_
              refine k_skip rfl rfl (pSub (pCons Sel.hc (pApp Sel.ha (pCons Sel.hc (pApp Sel.ha (pCons Sel.hc pNil)))))) rfl ?_
              refine k_skip rfl rfl (pSub (pCons Sel.hc (pApp Sel.ha (pCons Sel.hc (pApp Sel.ha (pCons Sel.hc pNil)))))) rfl ?_
              refine k_skip rfl rfl (pSub (pCons Sel.hc (pApp Sel.ha (pCons Sel.hc (pApp Sel.ha (pCons Sel.hc pNil)))))) rfl ?_
              refine k_skip rfl rfl (pSub (pCons Sel.hc (pApp Sel.ha (pCons Sel.hc (pApp Sel.ha (pCons Sel.hc pNil)))))) rfl ?_
              refine k_skip rfl rfl (pSub (pCons Sel.hc (pApp Sel.ha (pCons Sel.hc (pApp Sel.ha (pCons Sel.hc pNil)))))) rfl ?_
              refine k_skip rfl rfl (pSub (pCons Sel.hc (pApp Sel.ha (pCons Sel.hc (pApp Sel.ha (pCons Sel.hc pNil)))))) rfl ?_
              refine k_skip rfl rfl (pSub (pCons Sel.hc (pApp Sel.ha (pCons Sel.hc (pApp Sel.ha (pCons Sel.hc pNil)))))) rfl ?_
              refine k_skip rfl rfl (pSub (pCons Sel.hc (pApp Sel.ha (pCons Sel.hc (pApp Sel.ha (pCons Sel.hc pNil)))))) rfl ?_
              refine k_skip rfl rfl (pSub (pCons Sel.hc (pApp Sel.ha (pCons Sel.hc (pApp Sel.ha (pCons Sel.hc pNil)))))) rfl ?_
              simp only [Option.some.injEq, Prod.mk.injEq] at h
              obtain rfl := h
              have h := hg122; clear hg122
              refine k_val (v := .bool true) rfl rfl rfl (pSub (pCons Sel.hc (pApp Sel.ha (pCons Sel.hc (pApp Sel.ha (pCons Sel.hc pNil)))))) (stepV_ok tt_ok rfl) rfl ?_
              refine k_end ?_
              refine wx_then ?_
              replace h := ct rfl h
              refine wc_cond_true rfl ?_
              refine wc_seq ?_
              refine wc_region ?_
              refine wl_pure tt_ok rfl rfl ?_
              refine wl_nil ?_
              refine wx_then ?_
              refine wc_ret ?_
              refine wx_block_ret ?_
              refine wx_then_ret ?_
              obtain rfl := Option.some.inj h
              have h := hl27; clear hl27; try dsimp only [orE_l, orE_r] at h
              refine wx_then_ret ?_
              refine wx_block_ret ?_
              refine wx_then_ret ?_
              simp only [Option.some.injEq] at h
              obtain rfl := h
              exact wx_pf tt_ok (.inl rfl) Try.results4 (Res.tmp rfl Res.nil) rfl
            · replace h := cf hc h
              refine k_val rfl rfl rfl (pSub (pCons Sel.hc (pApp Sel.ha (pCons Sel.hc (pApp Sel.ha (pCons Sel.hc pNil)))))) (stepV_ok tt_ok rfl) rfl ?_
              refine k_val rfl rfl rfl (pSub (pCons Sel.hc (pApp Sel.ha (pCons Sel.hc (pApp Sel.ha (pCons Sel.hc pNil)))))) (stepV_ok tt_ok rfl) rfl ?_
              refine k_val rfl rfl rfl (pSub (pCons Sel.hc (pApp Sel.ha (pCons Sel.hc (pApp Sel.ha (pCons Sel.hc pNil)))))) (stepV_ok tt_ok rfl) rfl ?_
              refine k_val (v := .pointer (some ⟨b16_0, 1, none⟩)) rfl rfl rfl (pSub (pCons Sel.hc (pApp Sel.ha (pCons Sel.hc (pApp Sel.ha (pCons Sel.hc pNil)))))) (stepV_ok tt_ok rfl) rfl ?_
              refine k_val (v := .int .u64 o48_0.First) rfl rfl rfl (pSub (pCons Sel.hc (pApp Sel.ha (pCons Sel.hc (pApp Sel.ha (pCons Sel.hc pNil)))))) (val_load tt_ok rfl (List.Mem.head _) rfl) rfl ?_
              replace h := bsome h; obtain ⟨v82, x82, h⟩ := h
              refine k_cq rfl rfl rfl Try.call20 rfl rfl rfl (q_rd (k_queue_Queue_First o42_0N0 o42_0V0 x82) (pCons (Sel.sc (Sel.sa Sel.hc)) (pApp (Sel.sc (Sel.sa Sel.ha)) pNil)) (fun _ _ => trivial)) rfl (pSub (pCons Sel.hc (pApp Sel.ha (pCons Sel.hc (pApp Sel.ha (pCons Sel.hc pNil)))))) ?_
              refine k_val (v := .bool (v82 != o48_0.First)) rfl rfl rfl (pSub (pCons Sel.hc (pApp Sel.ha (pCons Sel.hc (pApp Sel.ha (pCons Sel.hc pNil)))))) (stepV_ok tt_ok rfl) rfl ?_
              simp only [Option.some.injEq, Prod.mk.injEq] at h
              obtain rfl := h
              have h := hg88; clear hg88
              refine k_val (v := .bool (v82 != o48_0.First)) rfl rfl rfl (pSub (pCons Sel.hc (pApp Sel.ha (pCons Sel.hc (pApp Sel.ha (pCons Sel.hc pNil)))))) (stepV_ok tt_ok rfl) rfl ?_
              refine k_val rfl rfl rfl (pSub (pCons Sel.hc (pApp Sel.ha (pCons Sel.hc (pApp Sel.ha (pCons Sel.hc pNil)))))) (stepV_ok tt_ok rfl) rfl ?_
              replace h := bsome h; obtain ⟨v95, h, hg95⟩ := h
              refine k_split (t := 89) rfl (fun hc => ?_) (fun hc => ?_)
              · replace h := ct hc h
                refine k_skip rfl rfl (pSub (pCons Sel.hc (pApp Sel.ha (pCons Sel.hc (pApp Sel.ha (pCons Sel.hc pNil)))))) rfl ?_
                refine k_skip rfl rfl (pSub (pCons Sel.hc (pApp Sel.ha (pCons Sel.hc (pApp Sel.ha (pCons Sel.hc pNil)))))) rfl ?_
                refine k_skip rfl rfl (pSub (pCons Sel.hc (pApp Sel.ha (pCons Sel.hc (pApp Sel.ha (pCons Sel.hc pNil)))))) rfl ?_
                refine k_skip rfl rfl (pSub (pCons Sel.hc (pApp Sel.ha (pCons Sel.hc (pApp Sel.ha (pCons Sel.hc pNil)))))) rfl ?_
                refine k_skip rfl rfl (pSub (pCons Sel.hc (pApp Sel.ha (pCons Sel.hc (pApp Sel.ha (pCons Sel.hc pNil)))))) rfl ?_
                simp only [Option.some.injEq, Prod.mk.injEq] at h
                obtain rfl := h
                have h := hg95; clear hg95
                refine k_val (v := .bool true) rfl rfl rfl (pSub (pCons Sel.hc (pApp Sel.ha (pCons Sel.hc (pApp Sel.ha (pCons Sel.hc pNil)))))) (stepV_ok tt_ok rfl) rfl ?_
                refine k_val rfl rfl rfl (pSub (pCons Sel.hc (pApp Sel.ha (pCons Sel.hc (pApp Sel.ha (pCons Sel.hc pNil)))))) (stepV_ok tt_ok rfl) rfl ?_
                replace h := bsome h; obtain ⟨v106, h, hg106⟩ := h
                replace h := ct rfl h
                refine k_skip rfl rfl (pSub (pCons Sel.hc (pApp Sel.ha (pCons Sel.hc (pApp Sel.ha (pCons Sel.hc pNil)))))) rfl ?_
                refine k_skip rfl rfl (pSub (pCons Sel.hc (pApp Sel.ha (pCons Sel.hc (pApp Sel.ha (pCons Sel.hc pNil)))))) rfl ?_
                refine k_skip rfl rfl (pSub (pCons Sel.hc (pApp Sel.ha (pCons Sel.hc (pApp Sel.ha (pCons Sel.hc pNil)))))) rfl ?_
                refine k_skip rfl rfl (pSub (pCons Sel.hc (pApp Sel.ha (pCons Sel.hc (pApp Sel.ha (pCons Sel.hc pNil)))))) rfl ?_
                refine k_skip rfl rfl (pSub (pCons Sel.hc (pApp Sel.ha (pCons Sel.hc (pApp Sel.ha (pCons Sel.hc pNil)))))) rfl ?_
                refine k_skip rfl rfl (pSub (pCons Sel.hc (pApp Sel.ha (pCons Sel.hc (pApp Sel.ha (pCons Sel.hc pNil)))))) rfl ?_
                refine k_skip rfl rfl (pSub (pCons Sel.hc (pApp Sel.ha (pCons Sel.hc (pApp Sel.ha (pCons Sel.hc pNil)))))) rfl ?_
                refine k_skip rfl rfl (pSub (pCons Sel.hc (pApp Sel.ha (pCons Sel.hc (pApp Sel.ha (pCons Sel.hc pNil)))))) rfl ?_
                refine k_skip rfl rfl (pSub (pCons Sel.hc (pApp Sel.ha (pCons Sel.hc (pApp Sel.ha (pCons Sel.hc pNil)))))) rfl ?_
                simp only [Option.some.injEq, Prod.mk.injEq] at h
                obtain rfl := h
                have h := hg106; clear hg106
                refine k_val (v := .bool true) rfl rfl rfl (pSub (pCons Sel.hc (pApp Sel.ha (pCons Sel.hc (pApp Sel.ha (pCons Sel.hc pNil)))))) (stepV_ok tt_ok rfl) rfl ?_
                refine k_val rfl rfl rfl (pSub (pCons Sel.hc (pApp Sel.ha (pCons Sel.hc (pApp Sel.ha (pCons Sel.hc pNil)))))) (stepV_ok tt_ok rfl) rfl ?_
                replace h := bsome h; obtain ⟨v122, h, hg122⟩ := h
                replace h := ct rfl h
                refine k_skip rfl rfl (pSub (pCons Sel.hc (pApp Sel.ha (pCons Sel.hc (pApp Sel.ha (pCons Sel.hc pNil)))))) rfl ?_
                refine k_skip rfl rfl (pSub (pCons Sel.hc (pApp Sel.ha (pCons Sel.hc (pApp Sel.ha (pCons Sel.hc pNil)))))) rfl ?_
                refine k_skip rfl rfl (pSub (pCons Sel.hc (pApp Sel.ha (pCons Sel.hc (pApp Sel.ha (pCons Sel.hc pNil)))))) rfl ?_
                refine k_skip rfl rfl (pSub (pCons Sel.hc (pApp Sel.ha (pCons Sel.hc (pApp Sel.ha (pCons Sel.hc pNil)))))) rfl ?_
                refine k_skip rfl rfl (pSub (pCons Sel.hc (pApp Sel.ha (pCons Sel.hc (pApp Sel.ha (pCons Sel.hc pNil)))))) rfl ?_
                refine k_skip rfl rfl (pSub (pCons Sel.hc (pApp Sel.ha (pCons Sel.hc (pApp Sel.ha (pCons Sel.hc pNil)))))) rfl ?_
                refine k_skip rfl rfl (pSub (pCons Sel.hc (pApp Sel.ha (pCons Sel.hc (pApp Sel.ha (pCons Sel.hc pNil)))))) rfl ?_
                refine k_skip rfl rfl (pSub (pCons Sel.hc (pApp Sel.ha (pCons Sel.hc (pApp Sel.ha (pCons Sel.hc pNil)))))) rfl ?_
                refine k_skip rfl rfl (pSub (pCons Sel.hc (pApp Sel.ha (pCons Sel.hc (pApp Sel.ha (pCons Sel.hc pNil)))))) rfl ?_
                refine k_skip rfl rfl (pSub (pCons Sel.hc (pApp Sel.ha (pCons Sel.hc (pApp Sel.ha (pCons Sel.hc pNil)))))) rfl ?_
                refine k_skip rfl rfl (pSub (pCons Sel.hc (pApp Sel.ha (pCons Sel.hc (pApp Sel.ha (pCons Sel.hc pNil)))))) rfl ?_
                refine k_skip rfl rfl (pSub (pCons Sel.hc (pApp Sel.ha (pCons Sel.hc (pApp Sel.ha (pCons Sel.hc pNil)))))) rfl ?_
                refine k_skip rfl rfl (pSub (pCons Sel.hc (pApp Sel.ha (pCons Sel.hc (pApp Sel.ha (pCons Sel.hc pNil)))))) rfl ?_
                refine k_skip rfl rfl (pSub (pCons Sel.hc (pApp Sel.ha (pCons Sel.hc (pApp Sel.ha (pCons Sel.hc pNil)))))) rfl ?_
                simp only [Option.some.injEq, Prod.mk.injEq] at h
                obtain rfl := h
                have h := hg122; clear hg122
                refine k_val (v := .bool true) rfl rfl rfl (pSub (pCons Sel.hc (pApp Sel.ha (pCons Sel.hc (pApp Sel.ha (pCons Sel.hc pNil)))))) (stepV_ok tt_ok rfl) rfl ?_
                refine k_end ?_
                refine wx_then ?_
                replace h := ct rfl h
                refine wc_cond_true rfl ?_
                refine wc_seq ?_
                refine wc_region ?_
                refine wl_pure tt_ok rfl rfl ?_
                refine wl_nil ?_
                refine wx_then ?_
                refine wc_ret ?_
                refine wx_block_ret ?_
                refine wx_then_ret ?_
                obtain rfl := Option.some.inj h
                have h := hl27; clear hl27; try dsimp only [orE_l, orE_r] at h
                refine wx_then_ret ?_
                refine wx_block_ret ?_
                refine wx_then_ret ?_
                simp only [Option.some.injEq] at h
                obtain rfl := h
                exact wx_pf tt_ok (.inl rfl) Try.results4 (Res.tmp rfl Res.nil) rfl
              · replace h := cf hc h
                refine k_val rfl rfl rfl (pSub (pCons Sel.hc (pApp Sel.ha (pCons Sel.hc (pApp Sel.ha (pCons Sel.hc pNil)))))) (stepV_ok tt_ok rfl) rfl ?_
                refine k_val rfl rfl rfl (pSub (pCons Sel.hc (pApp Sel.ha (pCons Sel.hc (pApp Sel.ha (pCons Sel.hc pNil)))))) (stepV_ok tt_ok rfl) rfl ?_
                replace h := bsome h; obtain ⟨v91, x91, h⟩ := h
                refine k_cq rfl rfl rfl Try.call9 rfl rfl rfl (q_rd (k_queue_Queue_Known o42_0N0 o42_0V0 x91) (pCons (Sel.sc (Sel.sa Sel.hc)) (pApp (Sel.sc (Sel.sa Sel.ha)) pNil)) (fun _ _ => trivial)) rfl (pSub (pCons Sel.hc (pApp Sel.ha (pCons Sel.hc (pApp Sel.ha (pCons Sel.hc pNil)))))) ?_
                replace h := bsome h; obtain ⟨v93, x93, h⟩ := h
                refine k_cq rfl rfl rfl Try.call21 rfl rfl rfl (q_rd (k_hindcastref24_Queue_Known o48_0N0 o48_0V0 x93) (pCons Sel.hc (pApp Sel.ha pNil)) (fun _ _ => trivial)) rfl (pSub (pCons Sel.hc (pApp Sel.ha (pCons Sel.hc (pApp Sel.ha (pCons Sel.hc pNil)))))) ?_
                refine k_val (v := .bool (v91 != v93)) rfl rfl rfl (pSub (pCons Sel.hc (pApp Sel.ha (pCons Sel.hc (pApp Sel.ha (pCons Sel.hc pNil)))))) (stepV_ok tt_ok rfl) rfl ?_
                simp only [Option.some.injEq, Prod.mk.injEq] at h
                obtain rfl := h
                have h := hg95; clear hg95
                refine k_val (v := .bool (v91 != v93)) rfl rfl rfl (pSub (pCons Sel.hc (pApp Sel.ha (pCons Sel.hc (pApp Sel.ha (pCons Sel.hc pNil)))))) (stepV_ok tt_ok rfl) rfl ?_
                refine k_val rfl rfl rfl (pSub (pCons Sel.hc (pApp Sel.ha (pCons Sel.hc (pApp Sel.ha (pCons Sel.hc pNil)))))) (stepV_ok tt_ok rfl) rfl ?_
                replace h := bsome h; obtain ⟨v106, h, hg106⟩ := h
                refine k_split (t := 96) rfl (fun hc => ?_) (fun hc => ?_)
                · replace h := ct hc h
                  refine k_skip rfl rfl (pSub (pCons Sel.hc (pApp Sel.ha (pCons Sel.hc (pApp Sel.ha (pCons Sel.hc pNil)))))) rfl ?_
                  refine k_skip rfl rfl (pSub (pCons Sel.hc (pApp Sel.ha (pCons Sel.hc (pApp Sel.ha (pCons Sel.hc pNil)))))) rfl ?_
                  refine k_skip rfl rfl (pSub (pCons Sel.hc (pApp Sel.ha (pCons Sel.hc (pApp Sel.ha (pCons Sel.hc pNil)))))) rfl ?_
                  refine k_skip rfl rfl (pSub (pCons Sel.hc (pApp Sel.ha (pCons Sel.hc (pApp Sel.ha (pCons Sel.hc pNil)))))) rfl ?_
                  refine k_skip rfl rfl (pSub (pCons Sel.hc (pApp Sel.ha (pCons Sel.hc (pApp Sel.ha (pCons Sel.hc pNil)))))) rfl ?_
                  refine k_skip rfl rfl (pSub (pCons Sel.hc (pApp Sel.ha (pCons Sel.hc (pApp Sel.ha (pCons Sel.hc pNil)))))) rfl ?_
                  refine k_skip rfl rfl (pSub (pCons Sel.hc (pApp Sel.ha (pCons Sel.hc (pApp Sel.ha (pCons Sel.hc pNil)))))) rfl ?_
                  refine k_skip rfl rfl (pSub (pCons Sel.hc (pApp Sel.ha (pCons Sel.hc (pApp Sel.ha (pCons Sel.hc pNil)))))) rfl ?_
                  refine k_skip rfl rfl (pSub (pCons Sel.hc (pApp Sel.ha (pCons Sel.hc (pApp Sel.ha (pCons Sel.hc pNil)))))) rfl ?_
                  simp only [Option.some.injEq, Prod.mk.injEq] at h
                  obtain rfl := h
                  have h := hg106; clear hg106
                  refine k_val (v := .bool true) rfl rfl rfl (pSub (pCons Sel.hc (pApp Sel.ha (pCons Sel.hc (pApp Sel.ha (pCons Sel.hc pNil)))))) (stepV_ok tt_ok rfl) rfl ?_
                  refine k_val rfl rfl rfl (pSub (pCons Sel.hc (pApp Sel.ha (pCons Sel.hc (pApp Sel.ha (pCons Sel.hc pNil)))))) (stepV_ok tt_ok rfl) rfl ?_
                  replace h := bsome h; obtain ⟨v122, h, hg122⟩ := h
                  replace h := ct rfl h
                  refine k_skip rfl rfl (pSub (pCons Sel.hc (pApp Sel.ha (pCons Sel.hc (pApp Sel.ha (pCons Sel.hc pNil)))))) rfl ?_
                  refine k_skip rfl rfl (pSub (pCons Sel.hc (pApp Sel.ha (pCons Sel.hc (pApp Sel.ha (pCons Sel.hc pNil)))))) rfl ?_
                  refine k_skip rfl rfl (pSub (pCons Sel.hc (pApp Sel.ha (pCons Sel.hc (pApp Sel.ha (pCons Sel.hc pNil)))))) rfl ?_
                  refine k_skip rfl rfl (pSub (pCons Sel.hc (pApp Sel.ha (pCons Sel.hc (pApp Sel.ha (pCons Sel.hc pNil)))))) rfl ?_
                  refine k_skip rfl rfl (pSub (pCons Sel.hc (pApp Sel.ha (pCons Sel.hc (pApp Sel.ha (pCons Sel.hc pNil)))))) rfl ?_
                  refine k_skip rfl rfl (pSub (pCons Sel.hc (pApp Sel.ha (pCons Sel.hc (pApp Sel.ha (pCons Sel.hc pNil)))))) rfl ?_
                  refine k_skip rfl rfl (pSub (pCons Sel.hc (pApp Sel.ha (pCons Sel.hc (pApp Sel.ha (pCons Sel.hc pNil)))))) rfl ?_
                  refine k_skip rfl rfl (pSub (pCons Sel.hc (pApp Sel.ha (pCons Sel.hc (pApp Sel.ha (pCons Sel.hc pNil)))))) rfl ?_
                  refine k_skip rfl rfl (pSub (pCons Sel.hc (pApp Sel.ha (pCons Sel.hc (pApp Sel.ha (pCons Sel.hc pNil)))))) rfl ?_
                  refine k_skip rfl rfl (pSub (pCons Sel.hc (pApp Sel.ha (pCons Sel.hc (pApp Sel.ha (pCons Sel.hc pNil)))))) rfl ?_
                  refine k_skip rfl rfl (pSub (pCons Sel.hc (pApp Sel.ha (pCons Sel.hc (pApp Sel.ha (pCons Sel.hc pNil)))))) rfl ?_
                  refine k_skip rfl rfl (pSub (pCons Sel.hc (pApp Sel.ha (pCons Sel.hc (pApp Sel.ha (pCons Sel.hc pNil)))))) rfl ?_
                  refine k_skip rfl rfl (pSub (pCons Sel.hc (pApp Sel.ha (pCons Sel.hc (pApp Sel.ha (pCons Sel.hc pNil)))))) rfl ?_
                  refine k_skip rfl rfl (pSub (pCons Sel.hc (pApp Sel.ha (pCons Sel.hc (pApp Sel.ha (pCons Sel.hc pNil)))))) rfl ?_
                  simp only [Option.some.injEq, Prod.mk.injEq] at h
                  obtain rfl := h
                  have h := hg122; clear hg122
                  refine k_val (v := .bool true) rfl rfl rfl (pSub (pCons Sel.hc (pApp Sel.ha (pCons Sel.hc (pApp Sel.ha (pCons Sel.hc pNil)))))) (stepV_ok tt_ok rfl) rfl ?_
                  refine k_end ?_
                  refine wx_then ?_
                  replace h := ct rfl h
                  refine wc_cond_true rfl ?_
                  refine wc_seq ?_
                  refine wc_region ?_
                  refine wl_pure tt_ok rfl rfl ?_
                  refine wl_nil ?_
                  refine wx_then ?_
                  refine wc_ret ?_
                  refine wx_block_ret ?_
                  refine wx_then_ret ?_
                  obtain rfl := Option.some.inj h
                  have h := hl27; clear hl27; try dsimp only [orE_l, orE_r] at h
                  refine wx_then_ret ?_
                  refine wx_block_ret ?_
                  refine wx_then_ret ?_
                  simp only [Option.some.injEq] at h
                  obtain rfl := h
                  exact wx_pf tt_ok (.inl rfl) Try.results4 (Res.tmp rfl Res.nil) rfl
                · replace h := cf hc h
                  refine k_val rfl rfl rfl (pSub (pCons Sel.hc (pApp Sel.ha (pCons Sel.hc (pApp Sel.ha (pCons Sel.hc pNil)))))) (stepV_ok tt_ok rfl) rfl ?_
                  refine k_val (v := .pointer (some ⟨b8, 2, none⟩)) rfl rfl rfl (pSub (pCons Sel.hc (pApp Sel.ha (pCons Sel.hc (pApp Sel.ha (pCons Sel.hc pNil)))))) (stepV_ok tt_ok rfl) rfl ?_
                  refine k_val (v := .int .u64 v31.Ask) rfl rfl rfl (pSub (pCons Sel.hc (pApp Sel.ha (pCons Sel.hc (pApp Sel.ha (pCons Sel.hc pNil)))))) (val_load tt_ok rfl (List.Mem.tail _ (mR (List.Mem.tail _ (mR (List.Mem.head _))))) rfl) rfl ?_
                  refine k_val rfl rfl rfl (pSub (pCons Sel.hc (pApp Sel.ha (pCons Sel.hc (pApp Sel.ha (pCons Sel.hc pNil)))))) (stepV_ok tt_ok rfl) rfl ?_
                  refine k_val (v := .pointer (some ⟨b8, 2, none⟩)) rfl rfl rfl (pSub (pCons Sel.hc (pApp Sel.ha (pCons Sel.hc (pApp Sel.ha (pCons Sel.hc pNil)))))) (stepV_ok tt_ok rfl) rfl ?_
                  refine k_val (v := .int .u64 v31.Ask) rfl rfl rfl (pSub (pCons Sel.hc (pApp Sel.ha (pCons Sel.hc (pApp Sel.ha (pCons Sel.hc pNil)))))) (val_load tt_ok rfl (List.Mem.tail _ (mR (List.Mem.tail _ (mR (List.Mem.head _))))) rfl) rfl ?_
                  replace h := bsome h; obtain ⟨v100, x100, h⟩ := h
                  refine k_cq rfl rfl rfl Try.call12 rfl rfl rfl (q_rd (k_queue_Queue_Guess o42_0N0 o42_0V0 x100) (pCons (Sel.sc (Sel.sa Sel.hc)) (pApp (Sel.sc (Sel.sa Sel.ha)) pNil)) (fun _ _ => trivial)) rfl (pSub (pCons Sel.hc (pApp Sel.ha (pCons Sel.hc (pApp Sel.ha (pCons Sel.hc pNil)))))) ?_
                  replace h := bsome h; obtain ⟨v104, x104, h⟩ := h
                  refine k_cq rfl rfl rfl Try.call22 rfl rfl rfl (q_rd (k_hindcastref24_Queue_Guess o48_0N0 o48_0V0 x104) (pCons Sel.hc (pApp Sel.ha pNil)) (fun _ _ => trivial)) rfl (pSub (pCons Sel.hc (pApp Sel.ha (pCons Sel.hc (pApp Sel.ha (pCons Sel.hc pNil)))))) ?_
                  refine k_val (v := .bool (v100 != v104)) rfl rfl rfl (pSub (pCons Sel.hc (pApp Sel.ha (pCons Sel.hc (pApp Sel.ha (pCons Sel.hc pNil)))))) (stepV_ok tt_ok rfl) rfl ?_
                  simp only [Option.some.injEq, Prod.mk.injEq] at h
                  obtain rfl := h
                  have h := hg106; clear hg106
                  refine k_val (v := .bool (v100 != v104)) rfl rfl rfl (pSub (pCons Sel.hc (pApp Sel.ha (pCons Sel.hc (pApp Sel.ha (pCons Sel.hc pNil)))))) (stepV_ok tt_ok rfl) rfl ?_
                  refine k_val rfl rfl rfl (pSub (pCons Sel.hc (pApp Sel.ha (pCons Sel.hc (pApp Sel.ha (pCons Sel.hc pNil)))))) (stepV_ok tt_ok rfl) rfl ?_
                  replace h := bsome h; obtain ⟨v122, h, hg122⟩ := h
                  refine k_split (t := 107) rfl (fun hc => ?_) (fun hc => ?_)
                  · replace h := ct hc h
                    refine k_skip rfl rfl (pSub (pCons Sel.hc (pApp Sel.ha (pCons Sel.hc (pApp Sel.ha (pCons Sel.hc pNil)))))) rfl ?_
                    refine k_skip rfl rfl (pSub (pCons Sel.hc (pApp Sel.ha (pCons Sel.hc (pApp Sel.ha (pCons Sel.hc pNil)))))) rfl ?_
                    refine k_skip rfl rfl (pSub (pCons Sel.hc (pApp Sel.ha (pCons Sel.hc (pApp Sel.ha (pCons Sel.hc pNil)))))) rfl ?_
                    refine k_skip rfl rfl (pSub (pCons Sel.hc (pApp Sel.ha (pCons Sel.hc (pApp Sel.ha (pCons Sel.hc pNil)))))) rfl ?_
                    refine k_skip rfl rfl (pSub (pCons Sel.hc (pApp Sel.ha (pCons Sel.hc (pApp Sel.ha (pCons Sel.hc pNil)))))) rfl ?_
                    refine k_skip rfl rfl (pSub (pCons Sel.hc (pApp Sel.ha (pCons Sel.hc (pApp Sel.ha (pCons Sel.hc pNil)))))) rfl ?_
                    refine k_skip rfl rfl (pSub (pCons Sel.hc (pApp Sel.ha (pCons Sel.hc (pApp Sel.ha (pCons Sel.hc pNil)))))) rfl ?_
                    refine k_skip rfl rfl (pSub (pCons Sel.hc (pApp Sel.ha (pCons Sel.hc (pApp Sel.ha (pCons Sel.hc pNil)))))) rfl ?_
                    refine k_skip rfl rfl (pSub (pCons Sel.hc (pApp Sel.ha (pCons Sel.hc (pApp Sel.ha (pCons Sel.hc pNil)))))) rfl ?_
                    refine k_skip rfl rfl (pSub (pCons Sel.hc (pApp Sel.ha (pCons Sel.hc (pApp Sel.ha (pCons Sel.hc pNil)))))) rfl ?_
                    refine k_skip rfl rfl (pSub (pCons Sel.hc (pApp Sel.ha (pCons Sel.hc (pApp Sel.ha (pCons Sel.hc pNil)))))) rfl ?_
                    refine k_skip rfl rfl (pSub (pCons Sel.hc (pApp Sel.ha (pCons Sel.hc (pApp Sel.ha (pCons Sel.hc pNil)))))) rfl ?_
                    refine k_skip rfl rfl (pSub (pCons Sel.hc (pApp Sel.ha (pCons Sel.hc (pApp Sel.ha (pCons Sel.hc pNil)))))) rfl ?_
                    refine k_skip rfl rfl (pSub (pCons Sel.hc (pApp Sel.ha (pCons Sel.hc (pApp Sel.ha (pCons Sel.hc pNil)))))) rfl ?_
                    simp only [Option.some.injEq, Prod.mk.injEq] at h
                    obtain rfl := h
                    have h := hg122; clear hg122
                    refine k_val (v := .bool true) rfl rfl rfl (pSub (pCons Sel.hc (pApp Sel.ha (pCons Sel.hc (pApp Sel.ha (pCons Sel.hc pNil)))))) (stepV_ok tt_ok rfl) rfl ?_
                    refine k_end ?_
                    refine wx_then ?_
                    replace h := ct rfl h
                    refine wc_cond_true rfl ?_
                    refine wc_seq ?_
                    refine wc_region ?_
                    refine wl_pure tt_ok rfl rfl ?_
                    refine wl_nil ?_
                    refine wx_then ?_
                    refine wc_ret ?_
                    refine wx_block_ret ?_
                    refine wx_then_ret ?_
                    obtain rfl := Option.some.inj h
                    have h := hl27; clear hl27; try dsimp only [orE_l, orE_r] at h
                    refine wx_then_ret ?_
                    refine wx_block_ret ?_
                    refine wx_then_ret ?_
                    simp only [Option.some.injEq] at h
                    obtain rfl := h
                    exact wx_pf tt_ok (.inl rfl) Try.results4 (Res.tmp rfl Res.nil) rfl
                  · replace h := cf hc h
                    refine k_val rfl rfl rfl (pSub (pCons Sel.hc (pApp Sel.ha (pCons Sel.hc (pApp Sel.ha (pCons Sel.hc pNil)))))) (stepV_ok tt_ok rfl) rfl ?_
                    refine k_val (v := .pointer (some ⟨b8, 2, none⟩)) rfl rfl rfl (pSub (pCons Sel.hc (pApp Sel.ha (pCons Sel.hc (pApp Sel.ha (pCons Sel.hc pNil)))))) (stepV_ok tt_ok rfl) rfl ?_
                    refine k_val (v := .int .u64 v31.Ask) rfl rfl rfl (pSub (pCons Sel.hc (pApp Sel.ha (pCons Sel.hc (pApp Sel.ha (pCons Sel.hc pNil)))))) (val_load tt_ok rfl (List.Mem.tail _ (mR (List.Mem.tail _ (mR (List.Mem.head _))))) rfl) rfl ?_
                    refine k_val (v := .pointer (some ⟨b8, 4, none⟩)) rfl rfl rfl (pSub (pCons Sel.hc (pApp Sel.ha (pCons Sel.hc (pApp Sel.ha (pCons Sel.hc pNil)))))) (stepV_ok tt_ok rfl) rfl ?_
                    refine k_val (v := .int .i64 v31.N) rfl rfl rfl (pSub (pCons Sel.hc (pApp Sel.ha (pCons Sel.hc (pApp Sel.ha (pCons Sel.hc pNil)))))) (val_load tt_ok rfl (List.Mem.tail _ (mR (List.Mem.tail _ (mR (List.Mem.head _))))) rfl) rfl ?_
                    refine k_val rfl rfl rfl (pSub (pCons Sel.hc (pApp Sel.ha (pCons Sel.hc (pApp Sel.ha (pCons Sel.hc pNil)))))) (stepV_ok tt_ok rfl) rfl ?_
                    refine k_val (v := .pointer (some ⟨b8, 2, none⟩)) rfl rfl rfl (pSub (pCons Sel.hc (pApp Sel.ha (pCons Sel.hc (pApp Sel.ha (pCons Sel.hc pNil)))))) (stepV_ok tt_ok rfl) rfl ?_
                    refine k_val (v := .int .u64 v31.Ask) rfl rfl rfl (pSub (pCons Sel.hc (pApp Sel.ha (pCons Sel.hc (pApp Sel.ha (pCons Sel.hc pNil)))))) (val_load tt_ok rfl (List.Mem.tail _ (mR (List.Mem.tail _ (mR (List.Mem.head _))))) rfl) rfl ?_
                    refine k_val (v := .pointer (some ⟨b8, 4, none⟩)) rfl rfl rfl (pSub (pCons Sel.hc (pApp Sel.ha (pCons Sel.hc (pApp Sel.ha (pCons Sel.hc pNil)))))) (stepV_ok tt_ok rfl) rfl ?_
                    refine k_val (v := .int .i64 v31.N) rfl rfl rfl (pSub (pCons Sel.hc (pApp Sel.ha (pCons Sel.hc (pApp Sel.ha (pCons Sel.hc pNil)))))) (val_load tt_ok rfl (List.Mem.tail _ (mR (List.Mem.tail _ (mR (List.Mem.head _))))) rfl) rfl ?_
                    replace h := bsome h; obtain ⟨v113, x113, h⟩ := h
                    refine k_cs rfl rfl rfl Try.call24 rfl rfl rfl (s_sp (k_queue_Queue_Slice o42_0N0 o42_0V0 x113) (pCons (Sel.sc (Sel.sa Sel.hc)) (pApp (Sel.sc (Sel.sa Sel.ha)) pNil)) (fun _ _ => trivial)) rfl (.inr (by rintro _ _ ⟨_, ⟨_, _, _, _, _, _, rfl, rfl⟩, rfl⟩; exact ⟨_, (pCons (Sel.sc (Sel.sa (Sel.sa Sel.hc))) (pApp (Sel.sc (Sel.sa (Sel.sa Sel.ha))) (pCons Sel.hc (pApp Sel.ha (pCons (Sel.sa Sel.hc) pNil)))))⟩)) ?_
                    rintro _ _ ⟨_, ⟨v113a0, v113n0, v113c0, v113B0, v113N0, v113V0, rfl, rfl⟩, rfl⟩
                    replace h := bsome h; obtain ⟨v119, x119, h⟩ := h
                    refine k_cs rfl rfl rfl Try.call25 rfl rfl rfl (s_sp (k_hindcastref24_Queue_Slice o48_0N0 o48_0V0 x119) (pCons (Sel.sc (Sel.sa (Sel.sa Sel.hc))) (pApp (Sel.sc (Sel.sa (Sel.sa Sel.ha))) pNil)) (fun _ _ => trivial)) rfl (.inr (by rintro _ _ ⟨_, ⟨_, _, _, _, _, _, rfl, rfl⟩, rfl⟩; exact ⟨_, (pCons Sel.hc (pApp Sel.ha (pCons (Sel.sa Sel.hc) (pApp (Sel.sa Sel.ha) (pCons (Sel.sa (Sel.sa Sel.hc)) pNil)))))⟩)) ?_
                    rintro _ _ ⟨_, ⟨v119a0, v119n0, v119c0, v119B0, v119N0, v119V0, rfl, rfl⟩, rfl⟩
                    replace h := bsome h; obtain ⟨v120, x120, h⟩ := h
                    refine k_cq rfl rfl rfl Try.call23 rfl rfl rfl (q_pf (k_hindcastref06_Same v113N0 (vec_cap v113V0) v119N0 (vec_cap v119V0) x120) (fun w hI => ⟨(Rds.call (Rds.of_vec v113V0) pNil ⟨_, (Sel.sc (Sel.sa (Sel.sa (Sel.sc (Sel.sa Sel.ha)))))⟩) w hI, (Rds.call (Rds.of_vec v119V0) pNil ⟨_, (Sel.sc (Sel.sa Sel.ha))⟩) w hI⟩)) rfl (pSub (pCons Sel.hc (pApp Sel.ha (pCons (Sel.sa Sel.hc) (pApp (Sel.sa Sel.ha) (pCons (Sel.sa (Sel.sa Sel.hc)) pNil)))))) ?_
                    refine k_val (v := .bool (!v120)) rfl rfl rfl (pSub (pCons Sel.hc (pApp Sel.ha (pCons (Sel.sa Sel.hc) (pApp (Sel.sa Sel.ha) (pCons (Sel.sa (Sel.sa Sel.hc)) pNil)))))) (stepV_ok tt_ok rfl) rfl ?_
                    simp only [Option.some.injEq, Prod.mk.injEq] at h
                    obtain rfl := h
                    have h := hg122; clear hg122
                    refine k_val (v := .bool (!v120)) rfl rfl rfl (pSub (pCons Sel.hc (pApp Sel.ha (pCons (Sel.sa Sel.hc) (pApp (Sel.sa Sel.ha) (pCons (Sel.sa (Sel.sa Sel.hc)) pNil)))))) (stepV_ok tt_ok rfl) rfl ?_
                    refine k_end ?_
                    refine wx_then ?_
                    refine wc_cond rfl (fun hc => ?_) (fun hc => ?_)
                    · replace h := ct hc h
                      refine wc_seq ?_
                      refine wc_region ?_
                      refine wl_pure tt_ok rfl rfl ?_
                      refine wl_nil ?_
                      refine wx_then ?_
                      refine wc_ret ?_
                      refine wx_block_ret ?_
                      refine wx_then_ret ?_
                      obtain rfl := Option.some.inj h
                      have h := hl27; clear hl27; try dsimp only [orE_l, orE_r] at h
                      refine wx_then_ret ?_
                      refine wx_block_ret ?_
                      refine wx_then_ret ?_
                      simp only [Option.some.injEq] at h
                      obtain rfl := h
                      exact wx_pf tt_ok (.inl rfl) Try.results4 (Res.tmp rfl Res.nil) rfl
                    · replace h := cf hc h
                      refine wc_skip ?_
                      refine wx_block ?_
                      refine wx_then ?_
                      refine wc_region ?_
                      refine wl_pure tt_ok rfl rfl ?_
                      refine wl_pure (v := .int .i64 (IntKind.wrap .i64 (j27_7 + (1 : Int)))) tt_ok rfl rfl ?_
                      refine wl_pure tt_ok rfl rfl ?_
                      refine wl_nil ?_
                      exact wx_round m27 (Nat.lt_succ_self m27) ⟨(IntKind.wrap .i64 (j27_7 + (1 : Int))), o42_0, o48_0, o42_0a0, o42_0n0, o42_0c0, o42_0B0, o48_0a0, o48_0n0, o48_0c0, o48_0B0, h, o42_0N0, o42_0V0, o48_0N0, o48_0V0, rfl, rfl⟩ (agree_cons rfl (agree_cons rfl (agree_cons rfl (agree_cons rfl (agree_cons rfl agree_nil))))) (pSub (pCons (Sel.sc (Sel.sa (Sel.sa Sel.hc))) (pCons Sel.hc (pApp (Sel.sa (Sel.sa Sel.ha)) (pApp Sel.ha pNil)))))
      · replace h := cf hc h
        refine wc_seq ?_
        refine wc_region ?_
        refine wl_pure tt_ok rfl rfl ?_
        refine wl_pure (v := .pointer (some ⟨b8, 1, none⟩)) tt_ok rfl rfl ?_
        refine wl_val (v := .int .u64 v31.F) (val_load tt_ok rfl (List.Mem.head _) rfl) rfl ?_
        replace h := bsome h; obtain ⟨o53_0, x53, h⟩ := h
        refine wl_cs Try.call16 rfl rfl rfl (s_sp (k_queue_Queue_Drop j27_n14_0N0 j27_n14_0V0 x53) (pCons (Sel.sc Sel.hc) (pApp (Sel.sc (Sel.sc Sel.ha)) pNil)) (fun _ _ => trivial)) rfl ?_
        rintro _ _ ⟨_, ⟨o53_0a0, o53_0n0, o53_0c0, o53_0B0, o53_0N0, o53_0V0, rfl, rfl⟩, rfl⟩
        refine wl_nil ?_
        refine wx_then ?_
        refine wc_region ?_
        refine wl_pure tt_ok rfl rfl ?_
        refine wl_pure (v := .pointer (some ⟨b8, 1, none⟩)) tt_ok rfl rfl ?_
        refine wl_val (v := .int .u64 v31.F) (val_load tt_ok rfl (List.Mem.tail _ (mR (List.Mem.head _))) rfl) rfl ?_
        replace h := bsome h; obtain ⟨o57_0, x57, h⟩ := h
        refine wl_cs Try.call17 rfl rfl rfl (s_sp (k_hindcastref24_Queue_Drop j27_n16_0N0 j27_n16_0V0 x57) (pCons (Sel.sc (Sel.sa (Sel.sc Sel.hc))) (pApp (Sel.sc (Sel.sa (Sel.sc Sel.ha))) pNil)) (fun _ _ => trivial)) rfl ?_
        rintro _ _ ⟨_, ⟨o57_0a0, o57_0n0, o57_0c0, o57_0B0, o57_0N0, o57_0V0, rfl, rfl⟩, rfl⟩
        refine wl_nil ?_
        refine wx_then ?_
        refine wc_seq ?_
        refine wc_region ?_
        refine wl_pure tt_ok rfl rfl ?_
        refine wl_pure (v := .pointer (some ⟨b8, 2, none⟩)) tt_ok rfl rfl ?_
        refine wl_val (v := .int .u64 v31.Ask) (val_load tt_ok rfl (List.Mem.tail _ (mR (List.Mem.tail _ (mR (List.Mem.head _))))) rfl) rfl ?_
        replace h := bsome h; obtain ⟨⟨v62_0, v62_1⟩, x62, h⟩ := h; try dsimp only at h
        refine wl_cq Try.call18 rfl rfl rfl (q_rd (k_queue_Queue_At o53_0N0 o53_0V0 x62) (pCons (Sel.sc (Sel.sa Sel.hc)) (pApp (Sel.sc (Sel.sa Sel.ha)) pNil)) (fun _ _ => trivial)) rfl ?_
        refine wl_pure tt_ok rfl rfl ?_
        refine wl_pure tt_ok rfl rfl ?_
        refine wl_pure tt_ok rfl rfl ?_
        refine wl_pure tt_ok rfl rfl ?_
        refine wl_pure tt_ok rfl rfl ?_
        refine wl_nil ?_
        refine wx_then ?_
        refine wc_seq ?_
        refine wc_region ?_
        refine wl_pure tt_ok rfl rfl ?_
        refine wl_pure (v := .pointer (some ⟨b8, 2, none⟩)) tt_ok rfl rfl ?_
        refine wl_val (v := .int .u64 v31.Ask) (val_load tt_ok rfl (List.Mem.tail _ (mR (List.Mem.tail _ (mR (List.Mem.head _))))) rfl) rfl ?_
        replace h := bsome h; obtain ⟨⟨v69_0, v69_1⟩, x69, h⟩ := h; try dsimp only at h
        refine wl_cq Try.call19 rfl rfl rfl (q_rd (k_hindcastref24_Queue_At o57_0N0 o57_0V0 x69) (pCons Sel.hc (pApp Sel.ha pNil)) (fun _ _ => trivial)) rfl ?_
        refine wl_pure tt_ok rfl rfl ?_
        refine wl_pure tt_ok rfl rfl ?_
        refine wl_pure tt_ok rfl rfl ?_
        refine wl_pure tt_ok rfl rfl ?_
        refine wl_pure tt_ok rfl rfl ?_
        refine wl_nil ?_
        refine wx_then ?_
        refine wc_seq ?_
        refine wc_k2 (Ls := (⟨b16_0, [.int .u64 o57_0.Begin, .int .u64 o57_0.First, .slice o57_0a0 o57_0n0 o57_0c0], 46, (0, 0)⟩ :: (o57_0B0 ++ (⟨b14_0, [.int .u64 o53_0.first_, .slice o53_0a0 o53_0n0 o53_0c0, .int .u8 o53_0.last], 52, (0, 0)⟩ :: (o53_0B0 ++ (⟨b8, [.int .u8 v31.What, .int .u64 v31.F, .int .u64 v31.Ask, .int .u8 v31.I, .int .i64 v31.N], 40, (0, 0)⟩ :: [])))))) [10, 19, 21, 28, 32, 41, 47, 48] [] [0, 0, 3, 7, 15, 15, 63, 127, 255, 511, 1023, 511, 2559, 6655, 14847, 32767, 65535, 131071, 262143, 524287, 262143, 2097151, 4194303, 8388607, 16777215, 33554431, 33554431, 100663295, 268435455, 33554431, 33554431, 1107296255, 4294967295, 8589934591, 17179869183, 34359738367, 68719476735, 68719476735, 206158430207, 68719476735, 618475290623, 2199023255551, 68719476735, 68719476735, 8864812498943, 68719476735, 35253091565567, 140737488355327, 281474976710655, 562949953421311, 1125899906842623] [0, 1, 2, 3, 4, 5, 6, 7, 8, 9, 11, 12, 13, 14, 10, 15, 16, 17, 18, 20, 19, 21, 22, 23, 24, 25, 26, 27, 29, 30, 31, 28, 32, 33, 34, 35, 36, 37, 38, 39, 40, 42, 43, 44, 45, 46, 41, 47, 48, 49, 50] (by kernel_rfl) (by kernel_rfl) (by kernel_rfl) ?_
        refine k_val rfl rfl rfl (pSub (pCons Sel.hc (pApp Sel.ha (pCons Sel.hc (pApp Sel.ha (pCons Sel.hc pNil)))))) (stepV_ok tt_ok rfl) rfl ?_
        refine k_val rfl rfl rfl (pSub (pCons Sel.hc (pApp Sel.ha (pCons Sel.hc (pApp Sel.ha (pCons Sel.hc pNil)))))) (stepV_ok tt_ok rfl) rfl ?_
        refine k_val (v := .bool (v62_0 != v69_0)) rfl rfl rfl (pSub (pCons Sel.hc (pApp Sel.ha (pCons Sel.hc (pApp Sel.ha (pCons Sel.hc pNil)))))) (stepV_ok tt_ok rfl) rfl ?_
        refine k_val rfl rfl rfl (pSub (pCons Sel.hc (pApp Sel.ha (pCons Sel.hc (pApp Sel.ha (pCons Sel.hc pNil)))))) (stepV_ok tt_ok rfl) rfl ?_
        replace h := bsome h; obtain ⟨v79, h, hg79⟩ := h
        refine k_split (t := 75) rfl (fun hc => ?_) (fun hc => ?_)
        · replace h := ct hc h
          refine k_skip rfl rfl (pSub (pCons Sel.hc (pApp Sel.ha (pCons Sel.hc (pApp Sel.ha (pCons Sel.hc pNil)))))) rfl ?_
          refine k_skip rfl rfl (pSub (pCons Sel.hc (pApp Sel.ha (pCons Sel.hc (pApp Sel.ha (pCons Sel.hc pNil)))))) rfl ?_
          refine k_skip rfl rfl (pSub (pCons Sel.hc (pApp Sel.ha (pCons Sel.hc (pApp Sel.ha (pCons Sel.hc pNil)))))) rfl ?_
          simp only [Option.some.injEq, Prod.mk.injEq] at h
          obtain rfl := h
          have h := hg79; clear hg79
          refine k_val (v := .bool true) rfl rfl rfl (pSub (pCons Sel.hc (pApp Sel.ha (pCons Sel.hc (pApp Sel.ha (pCons Sel.hc pNil)))))) (stepV_ok tt_ok rfl) rfl ?_
          refine k_val rfl rfl rfl (pSub (pCons Sel.hc (pApp Sel.ha (pCons Sel.hc (pApp Sel.ha (pCons Sel.hc pNil)))))) (stepV_ok tt_ok rfl) rfl ?_
          replace h := bsome h; obtain ⟨v88, h, hg88⟩ := h
          replace h := ct rfl h
          refine k_skip rfl rfl (pSub (pCons Sel.hc (pApp Sel.ha (pCons Sel.hc (pApp Sel.ha (pCons Sel.hc pNil)))))) rfl ?_
          refine k_skip rfl rfl (pSub (pCons Sel.hc (pApp Sel.ha (pCons Sel.hc (pApp Sel.ha (pCons Sel.hc pNil)))))) rfl ?_
          refine k_skip rfl rfl (pSub (pCons Sel.hc (pApp Sel.ha (pCons Sel.hc (pApp Sel.ha (pCons Sel.hc pNil)))))) rfl ?_
          refine k_skip rfl rfl (pSub (pCons Sel.hc (pApp Sel.ha (pCons Sel.hc (pApp Sel.ha (pCons Sel.hc pNil)))))) rfl ?_
          refine k_skip rfl rfl (pSub (pCons Sel.hc (pApp Sel.ha (pCons Sel.hc (pApp Sel.ha (pCons Sel.hc pNil)))))) rfl ?_
          refine k_skip rfl rfl (pSub (pCons Sel.hc (pApp Sel.ha (pCons Sel.hc (pApp Sel.ha (pCons Sel.hc pNil)))))) rfl ?_
          refine k_skip rfl rfl (pSub (pCons Sel.hc (pApp Sel.ha (pCons Sel.hc (pApp Sel.ha (pCons Sel.hc pNil)))))) rfl ?_
          simp only [Option.some.injEq, Prod.mk.injEq] at h
          obtain rfl := h
          have h := hg88; clear hg88
          refine k_val (v := .bool true) rfl rfl rfl (pSub (pCons Sel.hc (pApp Sel.ha (pCons Sel.hc (pApp Sel.ha (pCons Sel.hc pNil)))))) (stepV_ok tt_ok rfl) rfl ?_
          refine k_val rfl rfl rfl (pSub (pCons Sel.hc (pApp Sel.ha (pCons Sel.hc (pApp Sel.ha (pCons Sel.hc pNil)))))) (stepV_ok tt_ok rfl) rfl ?_
          replace h := bsome h; obtain ⟨v95, h, hg95⟩ := h
          replace h := ct rfl h
          refine k_skip rfl rfl (pSub (pCons Sel.hc (pApp Sel.ha (pCons Sel.hc (pApp Sel.ha (pCons Sel.hc pNil)))))) rfl ?_
          refine k_skip rfl rfl (pSub (pCons Sel.hc (pApp Sel.ha (pCons Sel.hc (pApp Sel.ha (pCons Sel.hc pNil)))))) rfl ?_
          refine k_skip rfl rfl (pSub (pCons Sel.hc (pApp Sel.ha (pCons Sel.hc (pApp Sel.ha (pCons Sel.hc pNil)))))) rfl ?_
          refine k_skip rfl rfl (pSub (pCons Sel.hc (pApp Sel.ha (pCons Sel.hc (pApp Sel.ha (pCons Sel.hc pNil)))))) rfl ?_
          refine k_skip rfl rfl (pSub (pCons Sel.hc (pApp Sel.ha (pCons Sel.hc (pApp Sel.ha (pCons Sel.hc pNil)))))) rfl ?_
          simp only [Option.some.injEq, Prod.mk.injEq] at h
          obtain rfl := h
          have h := hg95; clear hg95
          refine k_val (v := .bool true) rfl rfl rfl (pSub (pCons Sel.hc (pApp Sel.ha (pCons Sel.hc (pApp Sel.ha (pCons Sel.hc pNil)))))) (stepV_ok tt_ok rfl) rfl ?_
          refine k_val rfl rfl rfl (pSub (pCons Sel.hc (pApp Sel.ha (pCons Sel.hc (pApp Sel.ha (pCons Sel.hc pNil)))))) (stepV_ok tt_ok rfl) rfl ?_
          replace h := bsome h; obtain ⟨v106, h, hg106⟩ := h
          replace h := ct rfl h
          refine k_skip rfl rfl (pSub (pCons Sel.hc (pApp Sel.ha (pCons Sel.hc (pApp Sel.ha (pCons Sel.hc pNil)))))) rfl ?_
          refine k_skip rfl rfl (pSub (pCons Sel.hc (pApp Sel.ha (pCons Sel.hc (pApp Sel.ha (pCons Sel.hc pNil)))))) rfl ?_
          refine k_skip rfl rfl (pSub (pCons Sel.hc (pApp Sel.ha (pCons Sel.hc (pApp Sel.ha (pCons Sel.hc pNil)))))) rfl ?_
          refine k_skip rfl rfl (pSub (pCons Sel.hc (pApp Sel.ha (pCons Sel.hc (pApp Sel.ha (pCons Sel.hc pNil)))))) rfl ?_
          refine k_skip rfl rfl (pSub (pCons Sel.hc (pApp Sel.ha (pCons Sel.hc (pApp Sel.ha (pCons Sel.hc pNil)))))) rfl ?_
          refine k_skip rfl rfl (pSub (pCons Sel.hc (pApp Sel.ha (pCons Sel.hc (pApp Sel.ha (pCons Sel.hc pNil)))))) rfl ?_
          refine k_skip rfl rfl (pSub (pCons Sel.hc (pApp Sel.ha (pCons Sel.hc (pApp Sel.ha (pCons Sel.hc pNil)))))) rfl ?_
          refine k_skip rfl rfl (pSub (pCons Sel.hc (pApp Sel.ha (pCons Sel.hc (pApp Sel.ha (pCons Sel.hc pNil)))))) rfl ?_
          refine k_skip rfl rfl (pSub (pCons Sel.hc (pApp Sel.ha (pCons Sel.hc (pApp Sel.ha (pCons Sel.hc pNil)))))) rfl ?_
          simp only [Option.some.injEq, Prod.mk.injEq] at h
          obtain rfl := h
          have h := hg106; clear hg106
          refine k_val (v := .bool true) rfl rfl rfl (pSub (pCons Sel.hc (pApp Sel.ha (pCons Sel.hc (pApp Sel.ha (pCons Sel.hc pNil)))))) (stepV_ok tt_ok rfl) rfl ?_
          refine k_val rfl rfl rfl (pSub (pCons Sel.hc (pApp Sel.ha (pCons Sel.hc (pApp Sel.ha (pCons Sel.hc pNil)))))) (stepV_ok tt_ok rfl) rfl ?_
          replace h := bsome h; obtain ⟨v122, h, hg122⟩ := h
          replace h := ct rfl h
          refine k_skip rfl rfl (pSub (pCons Sel.hc (pApp Sel.ha (pCons Sel.hc (pApp Sel.ha (pCons Sel.hc pNil)))))) rfl ?_
          refine k_skip rfl rfl (pSub (pCons Sel.hc (pApp Sel.ha (pCons Sel.hc (pApp Sel.ha (pCons Sel.hc pNil)))))) rfl ?_
          refine k_skip rfl rfl (pSub (pCons Sel.hc (pApp Sel.ha (pCons Sel.hc (pApp Sel.ha (pCons Sel.hc pNil)))))) rfl ?_
          refine k_skip rfl rfl (pSub (pCons Sel.hc (pApp Sel.ha (pCons Sel.hc (pApp Sel.ha (pCons Sel.hc pNil)))))) rfl ?_
          refine k_skip rfl rfl (pSub (pCons Sel.hc (pApp Sel.ha (pCons Sel.hc (pApp Sel.ha (pCons Sel.hc pNil)))))) rfl ?_
          refine k_skip rfl rfl (pSub (pCons Sel.hc (pApp Sel.ha (pCons Sel.hc (pApp Sel.ha (pCons Sel.hc pNil)))))) rfl ?_
          refine k_skip rfl rfl (pSub (pCons Sel.hc (pApp Sel.ha (pCons Sel.hc (pApp Sel.ha (pCons Sel.hc pNil)))))) rfl ?_
          refine k_skip rfl rfl (pSub (pCons Sel.hc (pApp Sel.ha (pCons Sel.hc (pApp Sel.ha (pCons Sel.hc pNil)))))) rfl ?_
          refine k_skip rfl rfl (pSub (pCons Sel.hc (pApp Sel.ha (pCons Sel.hc (pApp Sel.ha (pCons Sel.hc pNil)))))) rfl ?_
          refine k_skip rfl rfl (pSub (pCons Sel.hc (pApp Sel.ha (pCons Sel.hc (pApp Sel.ha (pCons Sel.hc pNil)))))) rfl ?_
          refine k_skip rfl rfl (pSub (pCons Sel.hc (pApp Sel.ha (pCons Sel.hc (pApp Sel.ha (pCons Sel.hc pNil)))))) rfl ?_
          refine k_skip rfl rfl (pSub (pCons Sel.hc (pApp Sel.ha (pCons Sel.hc (pApp Sel.ha (pCons Sel.hc pNil)))))) rfl ?_
          refine k_skip rfl rfl (pSub (pCons Sel.hc (pApp Sel.ha (pCons Sel.hc (pApp Sel.ha (pCons Sel.hc pNil)))))) rfl ?_
          refine k_skip rfl rfl (pSub (pCons Sel.hc (pApp Sel.ha (pCons Sel.hc (pApp Sel.ha (pCons Sel.hc pNil)))))) rfl ?_
          simp only [Option.some.injEq, Prod.mk.injEq] at h
          obtain rfl := h
          have h := hg122; clear hg122
          refine k_val (v := .bool true) rfl rfl rfl (pSub (pCons Sel.hc (pApp Sel.ha (pCons Sel.hc (pApp Sel.ha (pCons Sel.hc pNil)))))) (stepV_ok tt_ok rfl) rfl ?_
          refine k_end ?_
          refine wx_then ?_
          replace h := ct rfl h
          refine wc_cond_true rfl ?_
          refine wc_seq ?_
          refine wc_region ?_
          refine wl_pure tt_ok rfl rfl ?_
          refine wl_nil ?_
          refine wx_then ?_
          refine wc_ret ?_
          refine wx_block_ret ?_
          refine wx_then_ret ?_
          obtain rfl := Option.some.inj h
          have h := hl27; clear hl27; try dsimp only [orE_l, orE_r] at h
          refine wx_then_ret ?_
          refine wx_block_ret ?_
          refine wx_then_ret ?_
          simp only [Option.some.injEq] at h
          obtain rfl := h
          exact wx_pf tt_ok (.inl rfl) Try.results4 (Res.tmp rfl Res.nil) rfl
        · replace h := cf hc h
          refine k_val rfl rfl rfl (pSub (pCons Sel.hc (pApp Sel.ha (pCons Sel.hc (pApp Sel.ha (pCons Sel.hc pNil)))))) (stepV_ok tt_ok rfl) rfl ?_
          refine k_val rfl rfl rfl (pSub (pCons Sel.hc (pApp Sel.ha (pCons Sel.hc (pApp Sel.ha (pCons Sel.hc pNil)))))) (stepV_ok tt_ok rfl) rfl ?_
          refine k_val (v := .bool (v62_1 != v69_1)) rfl rfl rfl (pSub (pCons Sel.hc (pApp Sel.ha (pCons Sel.hc (pApp Sel.ha (pCons Sel.hc pNil)))))) (stepV_ok tt_ok rfl) rfl ?_
          simp only [Option.some.injEq, Prod.mk.injEq] at h
          obtain rfl := h
          have h := hg79; clear hg79
          refine k_val (v := .bool (v62_1 != v69_1)) rfl rfl rfl (pSub (pCons Sel.hc (pApp Sel.ha (pCons Sel.hc (pApp Sel.ha (pCons Sel.hc pNil)))))) (stepV_ok tt_ok rfl) rfl ?_
          refine k_val rfl rfl rfl (pSub (pCons Sel.hc (pApp Sel.ha (pCons Sel.hc (pApp Sel.ha (pCons Sel.hc pNil)))))) (stepV_ok tt_ok rfl) rfl ?_
          replace h := bsome h; obtain ⟨v88, h, hg88⟩ := h
          refine k_split (t := 80) rfl (fun hc => ?_) (fun hc => ?_)
          · replace h := ct hc h
            refine k_skip rfl rfl (pSub (pCons Sel.hc (pApp Sel.ha (pCons Sel.hc (pApp Sel.ha (pCons Sel.hc pNil)))))) rfl ?_
            refine k_skip rfl rfl (pSub (pCons Sel.hc (pApp Sel.ha (pCons Sel.hc (pApp Sel.ha (pCons Sel.hc pNil)))))) rfl ?_
            refine k_skip rfl rfl (pSub (pCons Sel.hc (pApp Sel.ha (pCons Sel.hc (pApp Sel.ha (pCons Sel.hc pNil)))))) rfl ?_
            refine k_skip rfl rfl (pSub (pCons Sel.hc (pApp Sel.ha (pCons Sel.hc (pApp Sel.ha (pCons Sel.hc pNil)))))) rfl ?_
            refine k_skip rfl rfl (pSub (pCons Sel.hc (pApp Sel.ha (pCons Sel.hc (pApp Sel.ha (pCons Sel.hc pNil)))))) rfl ?_
            refine k_skip rfl rfl (pSub (pCons Sel.hc (pApp Sel.ha (pCons Sel.hc (pApp Sel.ha (pCons Sel.hc pNil)))))) rfl ?_
            refine k_skip rfl rfl (pSub (pCons Sel.hc (pApp Sel.ha (pCons Sel.hc (pApp Sel.ha (pCons Sel.hc pNil)))))) rfl ?_
            simp only [Option.some.injEq, Prod.mk.injEq] at h
            obtain rfl := h
            have h := hg88; clear hg88
            refine k_val (v := .bool true) rfl rfl rfl (pSub (pCons Sel.hc (pApp Sel.ha (pCons Sel.hc (pApp Sel.ha (pCons Sel.hc pNil)))))) (stepV_ok tt_ok rfl) rfl ?_
            refine k_val rfl rfl rfl (pSub (pCons Sel.hc (pApp Sel.ha (pCons Sel.hc (pApp Sel.ha (pCons Sel.hc pNil)))))) (stepV_ok tt_ok rfl) rfl ?_
            replace h := bsome h; obtain ⟨v95, h, hg95⟩ := h
            replace h := ct rfl h
            refine k_skip rfl rfl (pSub (pCons Sel.hc (pApp Sel.ha (pCons Sel.hc (pApp Sel.ha (pCons Sel.hc pNil)))))) rfl ?_
            refine k_skip rfl rfl (pSub (pCons Sel.hc (pApp Sel.ha (pCons Sel.hc (pApp Sel.ha (pCons Sel.hc pNil)))))) rfl ?_
            refine k_skip rfl rfl (pSub (pCons Sel.hc (pApp Sel.ha (pCons Sel.hc (pApp Sel.ha (pCons Sel.hc pNil)))))) rfl ?_
            refine k_skip rfl rfl (pSub (pCons Sel.hc (pApp Sel.ha (pCons Sel.hc (pApp Sel.ha (pCons Sel.hc pNil)))))) rfl ?_
            refine k_skip rfl rfl (pSub (pCons Sel.hc (pApp Sel.ha (pCons Sel.hc (pApp Sel.ha (pCons Sel.hc pNil)))))) rfl ?_
            simp only [Option.some.injEq, Prod.mk.injEq] at h
            obtain rfl := h
            have h := hg95; clear hg95
            refine k_val (v := .bool true) rfl rfl rfl (pSub (pCons Sel.hc (pApp Sel.ha (pCons Sel.hc (pApp Sel.ha (pCons Sel.hc pNil)))))) (stepV_ok tt_ok rfl) rfl ?_
            refine k_val rfl rfl rfl (pSub (pCons Sel.hc (pApp Sel.ha (pCons Sel.hc (pApp Sel.ha (pCons Sel.hc pNil)))))) (stepV_ok tt_ok rfl) rfl ?_
            replace h := bsome h; obtain ⟨v106, h, hg106⟩ := h
            replace h := ct rfl h
            refine k_skip rfl rfl (pSub (pCons Sel.hc (pApp Sel.ha (pCons Sel.hc (pApp Sel.ha (pCons Sel.hc pNil)))))) rfl ?_
            refine k_skip rfl rfl (pSub (pCons Sel.hc (pApp Sel.ha (pCons Sel.hc (pApp Sel.ha (pCons Sel.hc pNil)))))) rfl ?_
            refine k_skip rfl rfl (pSub (pCons Sel.hc (pApp Sel.ha (pCons Sel.hc (pApp Sel.ha (pCons Sel.hc pNil)))))) rfl ?_
            refine k_skip rfl rfl (pSub (pCons Sel.hc (pApp Sel.ha (pCons Sel.hc (pApp Sel.ha (pCons Sel.hc pNil)))))) rfl ?_
            refine k_skip rfl rfl (pSub (pCons Sel.hc (pApp Sel.ha (pCons Sel.hc (pApp Sel.ha (pCons Sel.hc pNil)))))) rfl ?_
            refine k_skip rfl rfl (pSub (pCons Sel.hc (pApp Sel.ha (pCons Sel.hc (pApp Sel.ha (pCons Sel.hc pNil)))))) rfl ?_
            refine k_skip rfl rfl (pSub (pCons Sel.hc (pApp Sel.ha (pCons Sel.hc (pApp Sel.ha (pCons Sel.hc pNil)))))) rfl ?_
            refine k_skip rfl rfl (pSub (pCons Sel.hc (pApp Sel.ha (pCons Sel.hc (pApp Sel.ha (pCons Sel.hc pNil)))))) rfl ?_
            refine k_skip rfl rfl (pSub (pCons Sel.hc (pApp Sel.ha (pCons Sel.hc (pApp Sel.ha (pCons Sel.hc pNil)))))) rfl ?_
            simp only [Option.some.injEq, Prod.mk.injEq] at h
            obtain rfl := h
            have h := hg106; clear hg106
            refine k_val (v := .bool true) rfl rfl rfl (pSub (pCons Sel.hc (pApp Sel.ha (pCons Sel.hc (pApp Sel.ha (pCons Sel.hc pNil)))))) (stepV_ok tt_ok rfl) rfl ?_
            refine k_val rfl rfl rfl (pSub (pCons Sel.hc (pApp Sel.ha (pCons Sel.hc (pApp Sel.ha (pCons Sel.hc pNil)))))) (stepV_ok tt_ok rfl) rfl ?_
            replace h := bsome h; obtain ⟨v122, h, hg122⟩ := h
            replace h := ct rfl h
            refine k_skip rfl rfl (pSub (pCons Sel.hc (pApp Sel.ha (pCons Sel.hc (pApp Sel.ha (pCons Sel.hc pNil)))))) rfl ?_
            refine k_skip rfl rfl (pSub (pCons Sel.hc (pApp Sel.ha (pCons Sel.hc (pApp Sel.ha (pCons Sel.hc pNil)))))) rfl ?_
            refine k_skip rfl rfl (pSub (pCons Sel.hc (pApp Sel.ha (pCons Sel.hc (pApp Sel.ha (pCons Sel.hc pNil)))))) rfl ?_
            refine k_skip rfl rfl (pSub (pCons Sel.hc (pApp Sel.ha (pCons Sel.hc (pApp Sel.ha (pCons Sel.hc pNil)))))) rfl ?_
            refine k_skip rfl rfl (pSub (pCons Sel.hc (pApp Sel.ha (pCons Sel.hc (pApp Sel.ha (pCons Sel.hc pNil)))))) rfl ?_
            refine k_skip rfl rfl (pSub (pCons Sel.hc (pApp Sel.ha (pCons Sel.hc (pApp Sel.ha (pCons Sel.hc pNil)))))) rfl ?_
            refine k_skip rfl rfl (pSub (pCons Sel.hc (pApp Sel.ha (pCons Sel.hc (pApp Sel.ha (pCons Sel.hc pNil)))))) rfl ?_
            refine k_skip rfl rfl (pSub (pCons Sel.hc (pApp Sel.ha (pCons Sel.hc (pApp Sel.ha (pCons Sel.hc pNil)))))) rfl ?_
            refine k_skip rfl rfl (pSub (pCons Sel.hc (pApp Sel.ha (pCons Sel.hc (pApp Sel.ha (pCons Sel.hc pNil)))))) rfl ?_
            refine k_skip rfl rfl (pSub (pCons Sel.hc (pApp Sel.ha (pCons Sel.hc (pApp Sel.ha (pCons Sel.hc pNil)))))) rfl ?_
            refine k_skip rfl rfl (pSub (pCons Sel.hc (pApp Sel.ha (pCons Sel.hc (pApp Sel.ha (pCons Sel.hc pNil)))))) rfl ?_
            refine k_skip rfl rfl (pSub (pCons Sel.hc (pApp Sel.ha (pCons Sel.hc (pApp Sel.ha (pCons Sel.hc pNil)))))) rfl ?_
            refine k_skip rfl rfl (pSub (pCons Sel.hc (pApp Sel.ha (pCons Sel.hc (pApp Sel.ha (pCons Sel.hc pNil)))))) rfl ?_
            refine k_skip rfl rfl (pSub (pCons Sel.hc (pApp Sel.ha (pCons Sel.hc (pApp Sel.ha (pCons Sel.hc pNil)))))) rfl ?_
            simp only [Option.some.injEq, Prod.mk.injEq] at h
            obtain rfl := h
            have h := hg122; clear hg122
            refine k_val (v := .bool true) rfl rfl rfl (pSub (pCons Sel.hc (pApp Sel.ha (pCons Sel.hc (pApp Sel.ha (pCons Sel.hc pNil)))))) (stepV_ok tt_ok rfl) rfl ?_
            refine k_end ?_
            refine wx_then ?_
            replace h := ct rfl h
            refine wc_cond_true rfl ?_
            refine wc_seq ?_
            refine wc_region ?_
            refine wl_pure tt_ok rfl rfl ?_
            refine wl_nil ?_
            refine wx_then ?_
            refine wc_ret ?_
            refine wx_block_ret ?_
            refine wx_then_ret ?_
            obtain rfl := Option.some.inj h
            have h := hl27; clear hl27; try dsimp only [orE_l, orE_r] at h
            refine wx_then_ret ?_
            refine wx_block_ret ?_
            refine wx_then_ret ?_
            simp only [Option.some.injEq] at h
            obtain rfl := h
            exact wx_pf tt_ok (.inl rfl) Try.results4 (Res.tmp rfl Res.nil) rfl
          · replace h := cf hc h
            refine k_val rfl rfl rfl (pSub (pCons Sel.hc (pApp Sel.ha (pCons Sel.hc (pApp Sel.ha (pCons Sel.hc pNil)))))) (stepV_ok tt_ok rfl) rfl ?_
            refine k_val rfl rfl rfl (pSub (pCons Sel.hc (pApp Sel.ha (pCons Sel.hc (pApp Sel.ha (pCons Sel.hc pNil)))))) (stepV_ok tt_ok rfl) rfl ?_
            refine k_val rfl rfl rfl (pSub (pCons Sel.hc (pApp Sel.ha (pCons Sel.hc (pApp Sel.ha (pCons Sel.hc pNil)))))) (stepV_ok tt_ok rfl) rfl ?_
            refine k_val (v := .pointer (some ⟨b16_0, 1, none⟩)) rfl rfl rfl (pSub (pCons Sel.hc (pApp Sel.ha (pCons Sel.hc (pApp Sel.ha (pCons Sel.hc pNil)))))) (stepV_ok tt_ok rfl) rfl ?_
            refine k_val (v := .int .u64 o57_0.First) rfl rfl rfl (pSub (pCons Sel.hc (pApp Sel.ha (pCons Sel.hc (pApp Sel.ha (pCons Sel.hc pNil)))))) (val_load tt_ok rfl (List.Mem.head _) rfl) rfl ?_
            replace h := bsome h; obtain ⟨v82, x82, h⟩ := h
            refine k_cq rfl rfl rfl Try.call20 rfl rfl rfl (q_rd (k_queue_Queue_First o53_0N0 o53_0V0 x82) (pCons (Sel.sc (Sel.sa Sel.hc)) (pApp (Sel.sc (Sel.sa Sel.ha)) pNil)) (fun _ _ => trivial)) rfl (pSub (pCons Sel.hc (pApp Sel.ha (pCons Sel.hc (pApp Sel.ha (pCons Sel.hc pNil)))))) ?_
            refine k_val (v := .bool (v82 != o57_0.First)) rfl rfl rfl (pSub (pCons Sel.hc (pApp Sel.ha (pCons Sel.hc (pApp Sel.ha (pCons Sel.hc pNil)))))) (stepV_ok tt_ok rfl) rfl ?_
            simp only [Option.some.injEq, Prod.mk.injEq] at h
            obtain rfl := h
            have h := hg88; clear hg88
            refine k_val (v := .bool (v82 != o57_0.First)) rfl rfl rfl (pSub (pCons Sel.hc (pApp Sel.ha (pCons Sel.hc (pApp Sel.ha (pCons Sel.hc pNil)))))) (stepV_ok tt_ok rfl) rfl ?_
            refine k_val rfl rfl rfl (pSub (pCons Sel.hc (pApp Sel.ha (pCons Sel.hc (pApp Sel.ha (pCons Sel.hc pNil)))))) (stepV_ok tt_ok rfl) rfl ?_
            replace h := bsome h; obtain ⟨v95, h, hg95⟩ := h
            refine k_split (t := 89) rfl (fun hc => ?_) (fun hc => ?_)
            · replace h := ct hc h
              refine k_skip rfl rfl (pSub (pCons Sel.hc (pApp Sel.ha (pCons Sel.hc (pApp Sel.ha (pCons Sel.hc pNil)))))) rfl ?_
              refine k_skip rfl rfl (pSub (pCons Sel.hc (pApp Sel.ha (pCons Sel.hc (pApp Sel.ha (pCons Sel.hc pNil)))))) rfl ?_
              refine k_skip rfl rfl (pSub (pCons Sel.hc (pApp Sel.ha (pCons Sel.hc (pApp Sel.ha (pCons Sel.hc pNil)))))) rfl ?_
              refine k_skip rfl rfl (pSub (pCons Sel.hc (pApp Sel.ha (pCons Sel.hc (pApp Sel.ha (pCons Sel.hc pNil)))))) rfl ?_
              refine k_skip rfl rfl (pSub (pCons Sel.hc (pApp Sel.ha (pCons Sel.hc (pApp Sel.ha (pCons Sel.hc pNil)))))) rfl ?_
              simp only [Option.some.injEq, Prod.mk.injEq] at h
              obtain rfl := h
              have h := hg95; clear hg95
              refine k_val (v := .bool true) rfl rfl rfl (pSub (pCons Sel.hc (pApp Sel.ha (pCons Sel.hc (pApp Sel.ha (pCons Sel.hc pNil)))))) (stepV_ok tt_ok rfl) rfl ?_
              refine k_val rfl rfl rfl (pSub (pCons Sel.hc (pApp Sel.ha (pCons Sel.hc (pApp Sel.ha (pCons Sel.hc pNil)))))) (stepV_ok tt_ok rfl) rfl ?_
              replace h := bsome h; obtain ⟨v106, h, hg106⟩ := h
              replace h := ct rfl h
              refine k_skip rfl rfl (pSub (pCons Sel.hc (pApp Sel.ha (pCons Sel.hc (pApp Sel.ha (pCons Sel.hc pNil)))))) rfl ?_
              refine k_skip rfl rfl (pSub (pCons Sel.hc (pApp Sel.ha (pCons Sel.hc (pApp Sel.ha (pCons Sel.hc pNil)))))) rfl ?_
              refine k_skip rfl rfl (pSub (pCons Sel.hc (pApp Sel.ha (pCons Sel.hc (pApp Sel.ha (pCons Sel.hc pNil)))))) rfl ?_
              refine k_skip rfl rfl (pSub (pCons Sel.hc (pApp Sel.ha (pCons Sel.hc (pApp Sel.ha (pCons Sel.hc pNil)))))) rfl ?_
              refine k_skip rfl rfl (pSub (pCons Sel.hc (pApp Sel.ha (pCons Sel.hc (pApp Sel.ha (pCons Sel.hc pNil)))))) rfl ?_
              refine k_skip rfl rfl (pSub (pCons Sel.hc (pApp Sel.ha (pCons Sel.hc (pApp Sel.ha (pCons Sel.hc pNil)))))) rfl ?_
              refine k_skip rfl rfl (pSub (pCons Sel.hc (pApp Sel.ha (pCons Sel.hc (pApp Sel.ha (pCons Sel.hc pNil)))))) rfl ?_
              refine k_skip rfl rfl (pSub (pCons Sel.hc (pApp Sel.ha (pCons Sel.hc (pApp Sel.ha (pCons Sel.hc pNil)))))) rfl ?_
              refine k_skip rfl rfl (pSub (pCons Sel.hc (pApp Sel.ha (pCons Sel.hc (pApp Sel.ha (pCons Sel.hc pNil)))))) rfl ?_
              simp only [Option.some.injEq, Prod.mk.injEq] at h
              obtain rfl := h
              have h := hg106; clear hg106
              refine k_val (v := .bool true) rfl rfl rfl (pSub (pCons Sel.hc (pApp Sel.ha (pCons Sel.hc (pApp Sel.ha (pCons Sel.hc pNil)))))) (stepV_ok tt_ok rfl) rfl ?_
              refine k_val rfl rfl rfl (pSub (pCons Sel.hc (pApp Sel.ha (pCons Sel.hc (pApp Sel.ha (pCons Sel.hc pNil)))))) (stepV_ok tt_ok rfl) rfl ?_
              replace h := bsome h; obtain ⟨v122, h, hg122⟩ := h
              replace h := ct rfl h
              refine k_skip rfl rfl (pSub (pCons Sel.hc (pApp Sel.ha (pCons Sel.hc (pApp Sel.ha (pCons Sel.hc pNil)))))) rfl ?_
              refine k_skip rfl rfl (pSub (pCons Sel.hc (pApp Sel.ha (pCons Sel.hc (pApp Sel.ha (pCons Sel.hc pNil)))))) rfl ?_
              refine k_skip rfl rfl (pSub (pCons Sel.hc (pApp Sel.ha (pCons Sel.hc (pApp Sel.ha (pCons Sel.hc pNil)))))) rfl ?_
              refine k_skip rfl rfl (pSub (pCons Sel.hc (pApp Sel.ha (pCons Sel.hc (pApp Sel.ha (pCons Sel.hc pNil)))))) rfl ?_
              refine k_skip rfl rfl (pSub (pCons Sel.hc (pApp Sel.ha (pCons Sel.hc (pApp Sel.ha (pCons Sel.hc pNil)))))) rfl ?_
              refine k_skip rfl rfl (pSub (pCons Sel.hc (pApp Sel.ha (pCons Sel.hc (pApp Sel.ha (pCons Sel.hc pNil)))))) rfl ?_
              refine k_skip rfl rfl (pSub (pCons Sel.hc (pApp Sel.ha (pCons Sel.hc (pApp Sel.ha (pCons Sel.hc pNil)))))) rfl ?_
              refine k_skip rfl rfl (pSub (pCons Sel.hc (pApp Sel.ha (pCons Sel.hc (pApp Sel.ha (pCons Sel.hc pNil)))))) rfl ?_
              refine k_skip rfl rfl (pSub (pCons Sel.hc (pApp Sel.ha (pCons Sel.hc (pApp Sel.ha (pCons Sel.hc pNil)))))) rfl ?_
              refine k_skip rfl rfl (pSub (pCons Sel.hc (pApp Sel.ha (pCons Sel.hc (pApp Sel.ha (pCons Sel.hc pNil)))))) rfl ?_
              refine k_skip rfl rfl (pSub (pCons Sel.hc (pApp Sel.ha (pCons Sel.hc (pApp Sel.ha (pCons Sel.hc pNil)))))) rfl ?_
              refine k_skip rfl rfl (pSub (pCons Sel.hc (pApp Sel.ha (pCons Sel.hc (pApp Sel.ha (pCons Sel.hc pNil)))))) rfl ?_
              refine k_skip rfl rfl (pSub (pCons Sel.hc (pApp Sel.ha (pCons Sel.hc (pApp Sel.ha (pCons Sel.hc pNil)))))) rfl ?_
              refine k_skip rfl rfl (pSub (pCons Sel.hc (pApp Sel.ha (pCons Sel.hc (pApp Sel.ha (pCons Sel.hc pNil)))))) rfl ?_
              simp only [Option.some.injEq, Prod.mk.injEq] at h
              obtain rfl := h
              have h := hg122; clear hg122
              refine k_val (v := .bool true) rfl rfl rfl (pSub (pCons Sel.hc (pApp Sel.ha (pCons Sel.hc (pApp Sel.ha (pCons Sel.hc pNil)))))) (stepV_ok tt_ok rfl) rfl ?_
              refine k_end ?_
              refine wx_then ?_
              replace h := ct rfl h
              refine wc_cond_true rfl ?_
              refine wc_seq ?_
              refine wc_region ?_
              refine wl_pure tt_ok rfl rfl ?_
              refine wl_nil ?_
              refine wx_then ?_
              refine wc_ret ?_
              refine wx_block_ret ?_
              refine wx_then_ret ?_
              obtain rfl := Option.some.inj h
              have h := hl27; clear hl27; try dsimp only [orE_l, orE_r] at h
              refine wx_then_ret ?_
              refine wx_block_ret ?_
              refine wx_then_ret ?_
              simp only [Option.some.injEq] at h
              obtain rfl := h
              exact wx_pf tt_ok (.inl rfl) Try.results4 (Res.tmp rfl Res.nil) rfl
            · replace h := cf hc h
              refine k_val rfl rfl rfl (pSub (pCons Sel.hc (pApp Sel.ha (pCons Sel.hc (pApp Sel.ha (pCons Sel.hc pNil)))))) (stepV_ok tt_ok rfl) rfl ?_
              refine k_val rfl rfl rfl (pSub (pCons Sel.hc (pApp Sel.ha (pCons Sel.hc (pApp Sel.ha (pCons Sel.hc pNil)))))) (stepV_ok tt_ok rfl) rfl ?_
              replace h := bsome h; obtain ⟨v91, x91, h⟩ := h
              refine k_cq rfl rfl rfl Try.call9 rfl rfl rfl (q_rd (k_queue_Queue_Known o53_0N0 o53_0V0 x91) (pCons (Sel.sc (Sel.sa Sel.hc)) (pApp (Sel.sc (Sel.sa Sel.ha)) pNil)) (fun _ _ => trivial)) rfl (pSub (pCons Sel.hc (pApp Sel.ha (pCons Sel.hc (pApp Sel.ha (pCons Sel.hc pNil)))))) ?_
              replace h := bsome h; obtain ⟨v93, x93, h⟩ := h
              refine k_cq rfl rfl rfl Try.call21 rfl rfl rfl (q_rd (k_hindcastref24_Queue_Known o57_0N0 o57_0V0 x93) (pCons Sel.hc (pApp Sel.ha pNil)) (fun _ _ => trivial)) rfl (pSub (pCons Sel.hc (pApp Sel.ha (pCons Sel.hc (pApp Sel.ha (pCons Sel.hc pNil)))))) ?_
              refine k_val (v := .bool (v91 != v93)) rfl rfl rfl (pSub (pCons Sel.hc (pApp Sel.ha (pCons Sel.hc (pApp Sel.ha (pCons Sel.hc pNil)))))) (stepV_ok tt_ok rfl) rfl ?_
              simp only [Option.some.injEq, Prod.mk.injEq] at h
              obtain rfl := h
              have h := hg95; clear hg95
              refine k_val (v := .bool (v91 != v93)) rfl rfl rfl (pSub (pCons Sel.hc (pApp Sel.ha (pCons Sel.hc (pApp Sel.ha (pCons Sel.hc pNil)))))) (stepV_ok tt_ok rfl) rfl ?_
              refine k_val rfl rfl rfl (pSub (pCons Sel.hc (pApp Sel.ha (pCons Sel.hc (pApp Sel.ha (pCons Sel.hc pNil)))))) (stepV_ok tt_ok rfl) rfl ?_
              replace h := bsome h; obtain ⟨v106, h, hg106⟩ := h
              refine k_split (t := 96) rfl (fun hc => ?_) (fun hc => ?_)
              · replace h := ct hc h
                refine k_skip rfl rfl (pSub (pCons Sel.hc (pApp Sel.ha (pCons Sel.hc (pApp Sel.ha (pCons Sel.hc pNil)))))) rfl ?_
                refine k_skip rfl rfl (pSub (pCons Sel.hc (pApp Sel.ha (pCons Sel.hc (pApp Sel.ha (pCons Sel.hc pNil)))))) rfl ?_
                refine k_skip rfl rfl (pSub (pCons Sel.hc (pApp Sel.ha (pCons Sel.hc (pApp Sel.ha (pCons Sel.hc pNil)))))) rfl ?_
                refine k_skip rfl rfl (pSub (pCons Sel.hc (pApp Sel.ha (pCons Sel.hc (pApp Sel.ha (pCons Sel.hc pNil)))))) rfl ?_
                refine k_skip rfl rfl (pSub (pCons Sel.hc (pApp Sel.ha (pCons Sel.hc (pApp Sel.ha (pCons Sel.hc pNil)))))) rfl ?_
                refine k_skip rfl rfl (pSub (pCons Sel.hc (pApp Sel.ha (pCons Sel.hc (pApp Sel.ha (pCons Sel.hc pNil)))))) rfl ?_
                refine k_skip rfl rfl (pSub (pCons Sel.hc (pApp Sel.ha (pCons Sel.hc (pApp Sel.ha (pCons Sel.hc pNil)))))) rfl ?_
                refine k_skip rfl rfl (pSub (pCons Sel.hc (pApp Sel.ha (pCons Sel.hc (pApp Sel.ha (pCons Sel.hc pNil)))))) rfl ?_
                refine k_skip rfl rfl (pSub (pCons Sel.hc (pApp Sel.ha (pCons Sel.hc (pApp Sel.ha (pCons Sel.hc pNil)))))) rfl ?_
                simp only [Option.some.injEq, Prod.mk.injEq] at h
                obtain rfl := h
                have h := hg106; clear hg106
                refine k_val (v := .bool true) rfl rfl rfl (pSub (pCons Sel.hc (pApp Sel.ha (pCons Sel.hc (pApp Sel.ha (pCons Sel.hc pNil)))))) (stepV_ok tt_ok rfl) rfl ?_
                refine k_val rfl rfl rfl (pSub (pCons Sel.hc (pApp Sel.ha (pCons Sel.hc (pApp Sel.ha (pCons Sel.hc pNil)))))) (stepV_ok tt_ok rfl) rfl ?_
                replace h := bsome h; obtain ⟨v122, h, hg122⟩ := h
                replace h := ct rfl h
                refine k_skip rfl rfl (pSub (pCons Sel.hc (pApp Sel.ha (pCons Sel.hc (pApp Sel.ha (pCons Sel.hc pNil)))))) rfl ?_
                refine k_skip rfl rfl (pSub (pCons Sel.hc (pApp Sel.ha (pCons Sel.hc (pApp Sel.ha (pCons Sel.hc pNil)))))) rfl ?_
                refine k_skip rfl rfl (pSub (pCons Sel.hc (pApp Sel.ha (pCons Sel.hc (pApp Sel.ha (pCons Sel.hc pNil)))))) rfl ?_
                refine k_skip rfl rfl (pSub (pCons Sel.hc (pApp Sel.ha (pCons Sel.hc (pApp Sel.ha (pCons Sel.hc pNil)))))) rfl ?_
                refine k_skip rfl rfl (pSub (pCons Sel.hc (pApp Sel.ha (pCons Sel.hc (pApp Sel.ha (pCons Sel.hc pNil)))))) rfl ?_
                refine k_skip rfl rfl (pSub (pCons Sel.hc (pApp Sel.ha (pCons Sel.hc (pApp Sel.ha (pCons Sel.hc pNil)))))) rfl ?_
                refine k_skip rfl rfl (pSub (pCons Sel.hc (pApp Sel.ha (pCons Sel.hc (pApp Sel.ha (pCons Sel.hc pNil)))))) rfl ?_
                refine k_skip rfl rfl (pSub (pCons Sel.hc (pApp Sel.ha (pCons Sel.hc (pApp Sel.ha (pCons Sel.hc pNil)))))) rfl ?_
                refine k_skip rfl rfl (pSub (pCons Sel.hc (pApp Sel.ha (pCons Sel.hc (pApp Sel.ha (pCons Sel.hc pNil)))))) rfl ?_
                refine k_skip rfl rfl (pSub (pCons Sel.hc (pApp Sel.ha (pCons Sel.hc (pApp Sel.ha (pCons Sel.hc pNil)))))) rfl ?_
                refine k_skip rfl rfl (pSub (pCons Sel.hc (pApp Sel.ha (pCons Sel.hc (pApp Sel.ha (pCons Sel.hc pNil)))))) rfl ?_
                refine k_skip rfl rfl (pSub (pCons Sel.hc (pApp Sel.ha (pCons Sel.hc (pApp Sel.ha (pCons Sel.hc pNil)))))) rfl ?_
                refine k_skip rfl rfl (pSub (pCons Sel.hc (pApp Sel.ha (pCons Sel.hc (pApp Sel.ha (pCons Sel.hc pNil)))))) rfl ?_
                refine k_skip rfl rfl (pSub (pCons Sel.hc (pApp Sel.ha (pCons Sel.hc (pApp Sel.ha (pCons Sel.hc pNil)))))) rfl ?_
                simp only [Option.some.injEq, Prod.mk.injEq] at h
                obtain rfl := h
                have h := hg122; clear hg122
                refine k_val (v := .bool true) rfl rfl rfl (pSub (pCons Sel.hc (pApp Sel.ha (pCons Sel.hc (pApp Sel.ha (pCons Sel.hc pNil)))))) (stepV_ok tt_ok rfl) rfl ?_
                refine k_end ?_
                refine wx_then ?_
                replace h := ct rfl h
                refine wc_cond_true rfl ?_
                refine wc_seq ?_
                refine wc_region ?_
                refine wl_pure tt_ok rfl rfl ?_
                refine wl_nil ?_
                refine wx_then ?_
                refine wc_ret ?_
                refine wx_block_ret ?_
                refine wx_then_ret ?_
                obtain rfl := Option.some.inj h
                have h := hl27; clear hl27; try dsimp only [orE_l, orE_r] at h
                refine wx_then_ret ?_
                refine wx_block_ret ?_
                refine wx_then_ret ?_
                simp only [Option.some.injEq] at h
                obtain rfl := h
                exact wx_pf tt_ok (.inl rfl) Try.results4 (Res.tmp rfl Res.nil) rfl
              · replace h := cf hc h
                refine k_val rfl rfl rfl (pSub (pCons Sel.hc (pApp Sel.ha (pCons Sel.hc (pApp Sel.ha (pCons Sel.hc pNil)))))) (stepV_ok tt_ok rfl) rfl ?_
                refine k_val (v := .pointer (some ⟨b8, 2, none⟩)) rfl rfl rfl (pSub (pCons Sel.hc (pApp Sel.ha (pCons Sel.hc (pApp Sel.ha (pCons Sel.hc pNil)))))) (stepV_ok tt_ok rfl) rfl ?_
                refine k_val (v := .int .u64 v31.Ask) rfl rfl rfl (pSub (pCons Sel.hc (pApp Sel.ha (pCons Sel.hc (pApp Sel.ha (pCons Sel.hc pNil)))))) (val_load tt_ok rfl (List.Mem.tail _ (mR (List.Mem.tail _ (mR (List.Mem.head _))))) rfl) rfl ?_
                refine k_val rfl rfl rfl (pSub (pCons Sel.hc (pApp Sel.ha (pCons Sel.hc (pApp Sel.ha (pCons Sel.hc pNil)))))) (stepV_ok tt_ok rfl) rfl ?_
                refine k_val (v := .pointer (some ⟨b8, 2, none⟩)) rfl rfl rfl (pSub (pCons Sel.hc (pApp Sel.ha (pCons Sel.hc (pApp Sel.ha (pCons Sel.hc pNil)))))) (stepV_ok tt_ok rfl) rfl ?_
                refine k_val (v := .int .u64 v31.Ask) rfl rfl rfl (pSub (pCons Sel.hc (pApp Sel.ha (pCons Sel.hc (pApp Sel.ha (pCons Sel.hc pNil)))))) (val_load tt_ok rfl (List.Mem.tail _ (mR (List.Mem.tail _ (mR (List.Mem.head _))))) rfl) rfl ?_
                replace h := bsome h; obtain ⟨v100, x100, h⟩ := h
                refine k_cq rfl rfl rfl Try.call12 rfl rfl rfl (q_rd (k_queue_Queue_Guess o53_0N0 o53_0V0 x100) (pCons (Sel.sc (Sel.sa Sel.hc)) (pApp (Sel.sc (Sel.sa Sel.ha)) pNil)) (fun _ _ => trivial)) rfl (pSub (pCons Sel.hc (pApp Sel.ha (pCons Sel.hc (pApp Sel.ha (pCons Sel.hc pNil)))))) ?_
                replace h := bsome h; obtain ⟨v104, x104, h⟩ := h
                refine k_cq rfl rfl rfl Try.call22 rfl rfl rfl (q_rd (k_hindcastref24_Queue_Guess o57_0N0 o57_0V0 x104) (pCons Sel.hc (pApp Sel.ha pNil)) (fun _ _ => trivial)) rfl (pSub (pCons Sel.hc (pApp Sel.ha (pCons Sel.hc (pApp Sel.ha (pCons Sel.hc pNil)))))) ?_
                refine k_val (v := .bool (v100 != v104)) rfl rfl rfl (pSub (pCons Sel.hc (pApp Sel.ha (pCons Sel.hc (pApp Sel.ha (pCons Sel.hc pNil)))))) (stepV_ok tt_ok rfl) rfl ?_
                simp only [Option.some.injEq, Prod.mk.injEq] at h
                obtain rfl := h
                have h := hg106; clear hg106
                refine k_val (v := .bool (v100 != v104)) rfl rfl rfl (pSub (pCons Sel.hc (pApp Sel.ha (pCons Sel.hc (pApp Sel.ha (pCons Sel.hc pNil)))))) (stepV_ok tt_ok rfl) rfl ?_
                refine k_val rfl rfl rfl (pSub (pCons Sel.hc (pApp Sel.ha (pCons Sel.hc (pApp Sel.ha (pCons Sel.hc pNil)))))) (stepV_ok tt_ok rfl) rfl ?_
                replace h := bsome h; obtain ⟨v122, h, hg122⟩ := h
                refine k_split (t := 107) rfl (fun hc => ?_) (fun hc => ?_)
                · replace h := ct hc h
                  refine k_skip rfl rfl (pSub (pCons Sel.hc (pApp Sel.ha (pCons Sel.hc (pApp Sel.ha (pCons Sel.hc pNil)))))) rfl ?_
                  refine k_skip rfl rfl (pSub (pCons Sel.hc (pApp Sel.ha (pCons Sel.hc (pApp Sel.ha (pCons Sel.hc pNil)))))) rfl ?_
                  refine k_skip rfl rfl (pSub (pCons Sel.hc (pApp Sel.ha (pCons Sel.hc (pApp Sel.ha (pCons Sel.hc pNil)))))) rfl ?_
                  refine k_skip rfl rfl (pSub (pCons Sel.hc (pApp Sel.ha (pCons Sel.hc (pApp Sel.ha (pCons Sel.hc pNil)))))) rfl ?_
                  refine k_skip rfl rfl (pSub (pCons Sel.hc (pApp Sel.ha (pCons Sel.hc (pApp Sel.ha (pCons Sel.hc pNil)))))) rfl ?_
                  refine k_skip rfl rfl (pSub (pCons Sel.hc (pApp Sel.ha (pCons Sel.hc (pApp Sel.ha (pCons Sel.hc pNil)))))) rfl ?_
                  refine k_skip rfl rfl (pSub (pCons Sel.hc (pApp Sel.ha (pCons Sel.hc (pApp Sel.ha (pCons Sel.hc pNil)))))) rfl ?_
                  refine k_skip rfl rfl (pSub (pCons Sel.hc (pApp Sel.ha (pCons Sel.hc (pApp Sel.ha (pCons Sel.hc pNil)))))) rfl ?_
                  refine k_skip rfl rfl (pSub (pCons Sel.hc (pApp Sel.ha (pCons Sel.hc (pApp Sel.ha (pCons Sel.hc pNil)))))) rfl ?_
                  refine k_skip rfl rfl (pSub (pCons Sel.hc (pApp Sel.ha (pCons Sel.hc (pApp Sel.ha (pCons Sel.hc pNil)))))) rfl ?_
                  refine k_skip rfl rfl (pSub (pCons Sel.hc (pApp Sel.ha (pCons Sel.hc (pApp Sel.ha (pCons Sel.hc pNil)))))) rfl ?_
                  refine k_skip rfl rfl (pSub (pCons Sel.hc (pApp Sel.ha (pCons Sel.hc (pApp Sel.ha (pCons Sel.hc pNil)))))) rfl ?_
                  refine k_skip rfl rfl (pSub (pCons Sel.hc (pApp Sel.ha (pCons Sel.hc (pApp Sel.ha (pCons Sel.hc pNil)))))) rfl ?_
                  refine k_skip rfl rfl (pSub (pCons Sel.hc (pApp Sel.ha (pCons Sel.hc (pApp Sel.ha (pCons Sel.hc pNil)))))) rfl ?_
                  simp only [Option.some.injEq, Prod.mk.injEq] at h
                  obtain rfl := h
                  have h := hg122; clear hg122
                  refine k_val (v := .bool true) rfl rfl rfl (pSub (pCons Sel.hc (pApp Sel.ha (pCons Sel.hc (pApp Sel.ha (pCons Sel.hc pNil)))))) (stepV_ok tt_ok rfl) rfl ?_
                  refine k_end ?_
                  refine wx_then ?_
                  replace h := ct rfl h
                  refine wc_cond_true rfl ?_
                  refine wc_seq ?_
                  refine wc_region ?_
                  refine wl_pure tt_ok rfl rfl ?_
                  refine wl_nil ?_
                  refine wx_then ?_
                  refine wc_ret ?_
                  refine wx_block_ret ?_
                  refine wx_then_ret ?_
                  obtain rfl := Option.some.inj h
                  have h := hl27; clear hl27; try dsimp only [orE_l, orE_r] at h
                  refine wx_then_ret ?_
                  refine wx_block_ret ?_
                  refine wx_then_ret ?_
                  simp only [Option.some.injEq] at h
                  obtain rfl := h
                  exact wx_pf tt_ok (.inl rfl) Try.results4 (Res.tmp rfl Res.nil) rfl
                · replace h := cf hc h
                  refine k_val rfl rfl rfl (pSub (pCons Sel.hc (pApp Sel.ha (pCons Sel.hc (pApp Sel.ha (pCons Sel.hc pNil)))))) (stepV_ok tt_ok rfl) rfl ?_
                  refine k_val (v := .pointer (some ⟨b8, 2, none⟩)) rfl rfl rfl (pSub (pCons Sel.hc (pApp Sel.ha (pCons Sel.hc (pApp Sel.ha (pCons Sel.hc pNil)))))) (stepV_ok tt_ok rfl) rfl ?_
                  refine k_val (v := .int .u64 v31.Ask) rfl rfl rfl (pSub (pCons Sel.hc (pApp Sel.ha (pCons Sel.hc (pApp Sel.ha (pCons Sel.hc pNil)))))) (val_load tt_ok rfl (List.Mem.tail _ (mR (List.Mem.tail _ (mR (List.Mem.head _))))) rfl) rfl ?_
                  refine k_val (v := .pointer (some ⟨b8, 4, none⟩)) rfl rfl rfl (pSub (pCons Sel.hc (pApp Sel.ha (pCons Sel.hc (pApp Sel.ha (pCons Sel.hc pNil)))))) (stepV_ok tt_ok rfl) rfl ?_
                  refine k_val (v := .int .i64 v31.N) rfl rfl rfl (pSub (pCons Sel.hc (pApp Sel.ha (pCons Sel.hc (pApp Sel.ha (pCons Sel.hc pNil)))))) (val_load tt_ok rfl (List.Mem.tail _ (mR (List.Mem.tail _ (mR (List.Mem.head _))))) rfl) rfl ?_
                  refine k_val rfl rfl rfl (pSub (pCons Sel.hc (pApp Sel.ha (pCons Sel.hc (pApp Sel.ha (pCons Sel.hc pNil)))))) (stepV_ok tt_ok rfl) rfl ?_
                  refine k_val (v := .pointer (some ⟨b8, 2, none⟩)) rfl rfl rfl (pSub (pCons Sel.hc (pApp Sel.ha (pCons Sel.hc (pApp Sel.ha (pCons Sel.hc pNil)))))) (stepV_ok tt_ok rfl) rfl ?_
                  refine k_val (v := .int .u64 v31.Ask) rfl rfl rfl (pSub (pCons Sel.hc (pApp Sel.ha (pCons Sel.hc (pApp Sel.ha (pCons Sel.hc pNil)))))) (val_load tt_ok rfl (List.Mem.tail _ (mR (List.Mem.tail _ (mR (List.Mem.head _))))) rfl) rfl ?_
                  refine k_val (v := .pointer (some ⟨b8, 4, none⟩)) rfl rfl rfl (pSub (pCons Sel.hc (pApp Sel.ha (pCons Sel.hc (pApp Sel.ha (pCons Sel.hc pNil)))))) (stepV_ok tt_ok rfl) rfl ?_
                  refine k_val (v := .int .i64 v31.N) rfl rfl rfl (pSub (pCons Sel.hc (pApp Sel.ha (pCons Sel.hc (pApp Sel.ha (pCons Sel.hc pNil)))))) (val_load tt_ok rfl (List.Mem.tail _ (mR (List.Mem.tail _ (mR (List.Mem.head _))))) rfl) rfl ?_
                  replace h := bsome h; obtain ⟨v113, x113, h⟩ := h
                  refine k_cs rfl rfl rfl Try.call24 rfl rfl rfl (s_sp (k_queue_Queue_Slice o53_0N0 o53_0V0 x113) (pCons (Sel.sc (Sel.sa Sel.hc)) (pApp (Sel.sc (Sel.sa Sel.ha)) pNil)) (fun _ _ => trivial)) rfl (.inr (by rintro _ _ ⟨_, ⟨_, _, _, _, _, _, rfl, rfl⟩, rfl⟩; exact ⟨_, (pCons (Sel.sc (Sel.sa (Sel.sa Sel.hc))) (pApp (Sel.sc (Sel.sa (Sel.sa Sel.ha))) (pCons Sel.hc (pApp Sel.ha (pCons (Sel.sa Sel.hc) pNil)))))⟩)) ?_
                  rintro _ _ ⟨_, ⟨v113a0, v113n0, v113c0, v113B0, v113N0, v113V0, rfl, rfl⟩, rfl⟩
                  replace h := bsome h; obtain ⟨v119, x119, h⟩ := h
                  refine k_cs rfl rfl rfl Try.call25 rfl rfl rfl (s_sp (k_hindcastref24_Queue_Slice o57_0N0 o57_0V0 x119) (pCons (Sel.sc (Sel.sa (Sel.sa Sel.hc))) (pApp (Sel.sc (Sel.sa (Sel.sa Sel.ha))) pNil)) (fun _ _ => trivial)) rfl (.inr (by rintro _ _ ⟨_, ⟨_, _, _, _, _, _, rfl, rfl⟩, rfl⟩; exact ⟨_, (pCons Sel.hc (pApp Sel.ha (pCons (Sel.sa Sel.hc) (pApp (Sel.sa Sel.ha) (pCons (Sel.sa (Sel.sa Sel.hc)) pNil)))))⟩)) ?_
                  rintro _ _ ⟨_, ⟨v119a0, v119n0, v119c0, v119B0, v119N0, v119V0, rfl, rfl⟩, rfl⟩
                  replace h := bsome h; obtain ⟨v120, x120, h⟩ := h
                  refine k_cq rfl rfl rfl Try.call23 rfl rfl rfl (q_pf (k_hindcastref06_Same v113N0 (vec_cap v113V0) v119N0 (vec_cap v119V0) x120) (fun w hI => ⟨(Rds.call (Rds.of_vec v113V0) pNil ⟨_, (Sel.sc (Sel.sa (Sel.sa (Sel.sc (Sel.sa Sel.ha)))))⟩) w hI, (Rds.call (Rds.of_vec v119V0) pNil ⟨_, (Sel.sc (Sel.sa Sel.ha))⟩) w hI⟩)) rfl (pSub (pCons Sel.hc (pApp Sel.ha (pCons (Sel.sa Sel.hc) (pApp (Sel.sa Sel.ha) (pCons (Sel.sa (Sel.sa Sel.hc)) pNil)))))) ?_
                  refine k_val (v := .bool (!v120)) rfl rfl rfl (pSub (pCons Sel.hc (pApp Sel.ha (pCons (Sel.sa Sel.hc) (pApp (Sel.sa Sel.ha) (pCons (Sel.sa (Sel.sa Sel.hc)) pNil)))))) (stepV_ok tt_ok rfl) rfl ?_
                  simp only [Option.some.injEq, Prod.mk.injEq] at h
                  obtain rfl := h
                  have h := hg122; clear hg122
                  refine k_val (v := .bool (!v120)) rfl rfl rfl (pSub (pCons Sel.hc (pApp Sel.ha (pCons (Sel.sa Sel.hc) (pApp (Sel.sa Sel.ha) (pCons (Sel.sa (Sel.sa Sel.hc)) pNil)))))) (stepV_ok tt_ok rfl) rfl ?_
                  refine k_end ?_
                  refine wx_then ?_
                  refine wc_cond rfl (fun hc => ?_) (fun hc => ?_)
                  · replace h := ct hc h
                    refine wc_seq ?_
                    refine wc_region ?_
                    refine wl_pure tt_ok rfl rfl ?_
                    refine wl_nil ?_
                    refine wx_then ?_
                    refine wc_ret ?_
                    refine wx_block_ret ?_
                    refine wx_then_ret ?_
                    obtain rfl := Option.some.inj h
                    have h := hl27; clear hl27; try dsimp only [orE_l, orE_r] at h
                    refine wx_then_ret ?_
                    refine wx_block_ret ?_
                    refine wx_then_ret ?_
                    simp only [Option.some.injEq] at h
                    obtain rfl := h
                    exact wx_pf tt_ok (.inl rfl) Try.results4 (Res.tmp rfl Res.nil) rfl
                  · replace h := cf hc h
                    refine wc_skip ?_
                    refine wx_block ?_
                    refine wx_then ?_
                    refine wc_region ?_
                    refine wl_pure tt_ok rfl rfl ?_
                    refine wl_pure (v := .int .i64 (IntKind.wrap .i64 (j27_7 + (1 : Int)))) tt_ok rfl rfl ?_
                    refine wl_pure tt_ok rfl rfl ?_
                    refine wl_nil ?_
                    exact wx_round m27 (Nat.lt_succ_self m27) ⟨(IntKind.wrap .i64 (j27_7 + (1 : Int))), o53_0, o57_0, o53_0a0, o53_0n0, o53_0c0, o53_0B0, o57_0a0, o57_0n0, o57_0c0, o57_0B0, h, o53_0N0, o53_0V0, o57_0N0, o57_0V0, rfl, rfl⟩ (agree_cons rfl (agree_cons rfl (agree_cons rfl (agree_cons rfl (agree_cons rfl agree_nil))))) (pSub (pCons (Sel.sc (Sel.sa (Sel.sa Sel.hc))) (pCons Sel.hc (pApp (Sel.sa (Sel.sa Sel.ha)) (pApp Sel.ha pNil)))))
    · replace h := cf hc h
      refine wc_exit ?_
      refine wx_then_exit ?_
      obtain rfl := Option.some.inj h
      have h := hl27; clear hl27; try dsimp only [orE_l, orE_r] at h
      refine wx_then_exit ?_
      refine wx_block_exit ?_
      refine wx_then ?_
      refine wc_seq ?_
      refine wc_region ?_
      replace h := bsome h; obtain ⟨v123, x123, h⟩ := h
      refine wl_cq Try.call7 rfl rfl rfl (q_pf (k_hindcastlaw24_works x123) (fun _ _ => trivial)) rfl ?_
      refine wl_pure tt_ok rfl rfl ?_
      refine wl_nil ?_
      refine wx_then ?_
      refine wc_ret ?_
      simp only [Option.some.injEq] at h
      obtain rfl := h
      exact wx_pf tt_ok (.inl rfl) Try.results4 (Res.tmp rfl Res.nil) rfl

theorem k_hindcastlaw24_QueueStays {F : Nat} {p0 : Int} {p1 : (List T_hindcastlaw24_Act)} {p1a0 : Option Addr} {p1n0 p1c0 : Nat} {r0 : Bool} (p1N0 : p1n0 = p1.length) (p1H0 : p1n0 ≤ p1c0) (h : m_hindcastlaw24_QueueStays F p0 p1 = some r0) :
    Pf Try.prog 5 [.int .u64 p0, .slice p1a0 p1n0 p1c0] (fun w => Rds w [] [] p1a0 (flat c_T_hindcastlaw24_Act p1)) (.bool r0) := by
  unfold m_hindcastlaw24_QueueStays at h
  refine pf_of_wc Try.func5 rfl Try.ntmps5 rfl rfl (fun w0 hR => ?_)
  have p1S0 := hR
  refine wc_seq ?_
  refine wc_region ?_
  refine wl_pure tt_ok rfl rfl ?_
  refine wl_nil ?_
  refine wx_then ?_
  refine wc_seq ?_
  refine wc_region ?_
  refine wl_pure tt_ok rfl rfl ?_
  replace h := bsome h; obtain ⟨v16, x16, h⟩ := h
  refine wl_cs Try.call8 rfl rfl rfl (s_sp (k_queue_New x16) pNil (fun _ _ => trivial)) rfl ?_
  rintro _ _ ⟨_, ⟨b16_0, v16a0, v16n0, v16c0, v16B0, v16N0, v16V0, rfl, rfl⟩, rfl⟩
  refine wl_pure tt_ok rfl rfl ?_
  refine wl_nil ?_
  refine wx_then ?_
  refine wc_seq ?_
  refine wc_seq ?_
  refine wc_region ?_
  refine wl_pure tt_ok rfl rfl ?_
  refine wl_pure (v := .bool false) tt_ok rfl rfl ?_
  refine wl_nil ?_
  refine wx_then ?_
  refine wc_cond_false rfl ?_
  refine wc_skip ?_
  refine wx_then ?_
  refine wc_seq ?_
  refine wc_seq ?_
  refine wc_region ?_
  refine wl_pure tt_ok rfl rfl ?_
  refine wl_val (v := .int .i64 (p1.length : Int)) (val_len tt_ok rfl rfl p1N0) rfl ?_
  refine wl_pure (v := .bool (decide ((200 : Int) < (p1.length : Int)))) tt_ok rfl rfl ?_
  refine wl_nil ?_
  refine wx_then ?_
  refine wc_cond rfl (fun hc => ?_) (fun hc => ?_)
  · replace h := ct hc h
    refine wc_seq ?_
    refine wc_region ?_
    replace h := bsome h; obtain ⟨v22, x22, h⟩ := h
    refine wl_cq Try.call7 rfl rfl rfl (q_pf (k_hindcastlaw24_works x22) (fun _ _ => trivial)) rfl ?_
    refine wl_pure tt_ok rfl rfl ?_
    refine wl_nil ?_
    refine wx_then ?_
    refine wc_ret ?_
    refine wx_then_ret ?_
    simp only [Option.some.injEq] at h
    obtain rfl := h
    exact wx_pf tt_ok (.inl rfl) Try.results5 (Res.tmp rfl Res.nil) rfl
  · replace h := cf hc h
    refine wc_skip ?_
    refine wx_then ?_
    refine wc_seq ?_
    refine wc_seq ?_
    refine wc_region ?_
    refine wl_pure tt_ok rfl rfl ?_
    refine wl_nil ?_
    refine wx_then ?_
    refine wc_block ?_
    replace h := bsome h; obtain ⟨o25, h, hl25⟩ := h
    refine wc_loop (fun m E L => ∃ (j25_6 : Int) (j25_n16_0 : T_queue_Queue) (j25_n16_0a0 : Option Addr) (j25_n16_0n0 : Nat) (j25_n16_0c0 : Nat) (j25_n16_0B0 : List Blk), m_hindcastlaw24_QueueStays_L24 F p1 m j25_6 j25_n16_0 = some o25 ∧ j25_n16_0n0 = j25_n16_0.l.length ∧ Own 31 1 j25_n16_0a0 j25_n16_0n0 j25_n16_0c0 (flat (e1 .u8) j25_n16_0.l) j25_n16_0B0 ∧ E = [(1, .slice p1a0 p1n0 p1c0), (4, .bool false), (5, .pointer (some ⟨b16_0, 0, none⟩)), (6, .int .i64 j25_6)] ∧ L = (⟨b16_0, [.int .u64 j25_n16_0.first_, .slice j25_n16_0a0 j25_n16_0n0 j25_n16_0c0, .int .u8 j25_n16_0.last], 52, (0, 0)⟩ :: (j25_n16_0B0 ++ []))) F ⟨(0 : Int), v16, v16a0, v16n0, v16c0, v16B0, h, v16N0, v16V0, rfl, rfl⟩ (agree_cons rfl (agree_cons rfl (agree_cons rfl (agree_cons rfl agree_nil)))) (pSub (pCons Sel.hc (pApp Sel.ha pNil))) ?_
    clear h
    rintro m25 _ _ ⟨j25_6, j25_n16_0, j25_n16_0a0, j25_n16_0n0, j25_n16_0c0, j25_n16_0B0, h, j25_n16_0N0, j25_n16_0V0, rfl, rfl⟩
    rcases m25 with _ | m25
    · rw [m_hindcastlaw24_QueueStays_L24.eq_1] at h; cases h
    rw [m_hindcastlaw24_QueueStays_L24.eq_2] at h
    refine wc_seq ?_
    refine wc_seq ?_
    refine wc_region ?_
    refine wl_pure tt_ok rfl rfl ?_
    refine wl_pure tt_ok rfl rfl ?_
    refine wl_val (v := .int .i64 (p1.length : Int)) (val_len tt_ok rfl rfl p1N0) rfl ?_
    refine wl_pure (v := .bool (decide (j25_6 < (p1.length : Int)))) tt_ok rfl rfl ?_
    refine wl_nil ?_
    refine wx_then ?_
    refine wc_cond rfl (fun hc => ?_) (fun hc => ?_)
    · replace h := ct hc h
      refine wc_skip ?_
      refine wx_then ?_
      refine wc_seq ?_
      refine wc_block ?_
      refine wc_seq ?_
      refine wc_region ?_
      refine wl_pure tt_ok rfl rfl ?_
      refine wl_pure tt_ok rfl rfl ?_
      replace h := bsome h; obtain ⟨v31, x31, h⟩ := h
      refine wl_val (v := .pointer (some ((adOf p1a0).add (j25_6.toNat * 5 + 0)))) (val_ix (enc := c_T_hindcastlaw24_Act) tt_ok rfl rfl rfl rfl p1N0 p1S0 c_T_hindcastlaw24_Act_len rfl x31) rfl ?_
      refine wl_val (v := .agg #[.int .u8 v31.What, .int .u64 v31.F, .int .u64 v31.Ask, .int .u8 v31.I, .int .i64 v31.N]) (val_le (enc := c_T_hindcastlaw24_Act) (xs := p1) tt_ok rfl p1S0 rsub_nil c_T_hindcastlaw24_Act_len x31 rfl) rfl ?_
      refine wl_alloc tt_ok rfl rfl (fun b7 => ?_)
      apply wl_store tt_ok; rfl; exact Upd.here; rfl; rfl; rfl; rfl; rfl; rfl
      refine wl_nil ?_
      refine wx_then ?_
      refine wc_seq ?_
      refine wc_region ?_
      refine wl_pure tt_ok rfl rfl ?_
      replace h := bsome h; obtain ⟨v34, x34, h⟩ := h
      refine wl_cq Try.call20 rfl rfl rfl (q_rd (k_queue_Queue_First j25_n16_0N0 j25_n16_0V0 x34) (pCons (Sel.sc Sel.hc) (pApp (Sel.sc Sel.ha) pNil)) (fun _ _ => trivial)) rfl ?_
      refine wl_pure tt_ok rfl rfl ?_
      replace h := bsome h; obtain ⟨v36, x36, h⟩ := h
      refine wl_cq Try.call9 rfl rfl rfl (q_rd (k_queue_Queue_Known j25_n16_0N0 j25_n16_0V0 x36) (pCons (Sel.sc Sel.hc) (pApp (Sel.sc Sel.ha) pNil)) (fun _ _ => trivial)) rfl ?_
      refine wl_pure tt_ok rfl rfl ?_
      refine wl_pure tt_ok rfl rfl ?_
      refine wl_nil ?_
      refine wx_then ?_
      refine wc_seq ?_
      refine wc_region ?_
      refine wl_pure tt_ok rfl rfl ?_
      refine wl_pure tt_ok rfl rfl ?_
      replace h := bsome h; obtain ⟨v39, x39, h⟩ := h
      refine wl_cs Try.call24 rfl rfl rfl (s_sp (k_queue_Queue_Slice j25_n16_0N0 j25_n16_0V0 x39) (pCons (Sel.sc Sel.hc) (pApp (Sel.sc Sel.ha) pNil)) (fun _ _ => trivial)) rfl ?_
      rintro _ _ ⟨_, ⟨v39a0, v39n0, v39c0, v39B0, v39N0, v39V0, rfl, rfl⟩, rfl⟩
      refine wl_pure tt_ok rfl rfl ?_
      refine wl_nil ?_
      refine wx_then ?_
      refine wc_seq ?_
      refine wc_seq ?_
      refine wc_region ?_
      refine wl_pure tt_ok rfl rfl ?_
      refine wl_val (v := .int .i64 (v39.length : Int)) (val_len tt_ok rfl rfl v39N0) rfl ?_
      refine wl_pure (v := .int .u64 (IntKind.wrap .u64 (v39.length : Int))) tt_ok rfl rfl ?_
      refine wl_pure tt_ok rfl rfl ?_
      refine wl_pure tt_ok rfl rfl ?_
      refine wl_pure (v := .int .u64 (IntKind.wrap .u64 (v36 - v34))) tt_ok rfl rfl ?_
      refine wl_pure (v := .bool ((IntKind.wrap .u64 (v39.length : Int)) != (IntKind.wrap .u64 (v36 - v34)))) tt_ok rfl rfl ?_
      refine wl_pure tt_ok rfl rfl ?_
      replace h := bsome h; obtain ⟨v51, h, hg51⟩ := h
      refine wl_split (t := 47) rfl (fun hc => ?_) (fun hc => ?_)
      · replace h := ct hc h
        refine wl_skip rfl rfl ?_
        refine wl_skip rfl rfl ?_
        refine wl_skip rfl rfl ?_
        simp only [Option.some.injEq, Prod.mk.injEq] at h
        obtain rfl := h
        have h := hg51; clear hg51
        refine wl_pure (v := .bool true) tt_ok rfl rfl ?_
        refine wl_nil ?_
        refine wx_then ?_
        replace h := ct rfl h
        refine wc_cond_true rfl ?_
        refine wc_seq ?_
        refine wc_region ?_
        refine wl_pure tt_ok rfl rfl ?_
        refine wl_nil ?_
        refine wx_then ?_
        refine wc_ret ?_
        refine wx_then_ret ?_
        refine wx_block_ret ?_
        refine wx_then_ret ?_
        obtain rfl := Option.some.inj h
        have h := hl25; clear hl25; try dsimp only [orE_l, orE_r] at h
        refine wx_then_ret ?_
        refine wx_block_ret ?_
        refine wx_then_ret ?_
        simp only [Option.some.injEq] at h
        obtain rfl := h
        exact wx_pf tt_ok (.inl rfl) Try.results5 (Res.tmp rfl Res.nil) rfl
      · replace h := cf hc h
        refine wl_run rfl ?_
        refine wl_pure tt_ok rfl rfl ?_
        refine wl_run rfl ?_
        refine wl_val (v := .int .i64 (v39.length : Int)) (val_len tt_ok rfl rfl v39N0) rfl ?_
        refine wl_run rfl ?_
        refine wl_pure (v := .bool (decide ((24 : Int) < (v39.length : Int)))) tt_ok rfl rfl ?_
        simp only [Option.some.injEq, Prod.mk.injEq] at h
        obtain rfl := h
        have h := hg51; clear hg51
        refine wl_pure (v := .bool (decide ((24 : Int) < (v39.length : Int)))) tt_ok rfl rfl ?_
        refine wl_nil ?_
        refine wx_then ?_
        refine wc_cond rfl (fun hc => ?_) (fun hc => ?_)
        · replace h := ct hc h
          refine wc_seq ?_
          refine wc_region ?_
          refine wl_pure tt_ok rfl rfl ?_
          refine wl_nil ?_
          refine wx_then ?_
          refine wc_ret ?_
          refine wx_then_ret ?_
          refine wx_block_ret ?_
          refine wx_then_ret ?_
          obtain rfl := Option.some.inj h
          have h := hl25; clear hl25; try dsimp only [orE_l, orE_r] at h
          refine wx_then_ret ?_
          refine wx_block_ret ?_
          refine wx_then_ret ?_
          simp only [Option.some.injEq] at h
          obtain rfl := h
          exact wx_pf tt_ok (.inl rfl) Try.results5 (Res.tmp rfl Res.nil) rfl
        · replace h := cf hc h
          refine wc_skip ?_
          refine wx_then ?_
          refine wc_seq ?_
          refine wc_seq ?_
          refine wc_region ?_
          refine wl_pure (v := .pointer (some ⟨b7, 0, none⟩)) tt_ok rfl rfl ?_
          refine wl_val (v := .int .u8 v31.What) (val_load tt_ok rfl (List.Mem.tail _ (mR (mR (List.Mem.head _)))) rfl) rfl ?_
          refine wl_pure (v := .int .u8 (Int.tmod v31.What 4)) tt_ok rfl rfl ?_
          refine wl_pure (v := .bool (decide ((Int.tmod v31.What 4) < (3 : Int)))) tt_ok rfl rfl ?_
          refine wl_nil ?_
          refine wx_then ?_
          replace h := bsome h; obtain ⟨j51_n16_0, h, hj51⟩ := h
          refine wc_join2 (fun E L => ∃ (j51_n16_0a0 : Option Addr) (j51_n16_0n0 : Nat) (j51_n16_0c0 : Nat) (j51_n16_0B0 : List Blk), j51_n16_0n0 = j51_n16_0.l.length ∧ Own 31 1 j51_n16_0a0 j51_n16_0n0 j51_n16_0c0 (flat (e1 .u8) j51_n16_0.l) j51_n16_0B0 ∧ E = [(1, .slice p1a0 p1n0 p1c0), (4, .bool false), (5, .pointer (some ⟨b16_0, 0, none⟩)), (6, .int .i64 j25_6), (8, .int .u64 v34), (9, .int .u64 v36), (10, .slice v39a0 v39n0 v39c0)] ∧ L = (⟨b16_0, [.int .u64 j51_n16_0.first_, .slice j51_n16_0a0 j51_n16_0n0 j51_n16_0c0, .int .u8 j51_n16_0.last], 52, (0, 0)⟩ :: (j51_n16_0B0 ++ (v39B0 ++ [])))) ?_ ?_
          · refine wc_cond rfl (fun hc => ?_) (fun hc => ?_)
            · replace h := ct hc h
              refine wc_region ?_
              refine wl_pure tt_ok rfl rfl ?_
              refine wl_pure (v := .pointer (some ⟨b7, 1, none⟩)) tt_ok rfl rfl ?_
              refine wl_val (v := .int .u64 v31.F) (val_load tt_ok rfl (List.Mem.tail _ (mR (mR (List.Mem.head _)))) rfl) rfl ?_
              refine wl_pure (v := .pointer (some ⟨b7, 3, none⟩)) tt_ok rfl rfl ?_
              refine wl_val (v := .int .u8 v31.I) (val_load tt_ok rfl (List.Mem.tail _ (mR (mR (List.Mem.head _)))) rfl) rfl ?_
              replace h := bsome h; obtain ⟨⟨o61_0, v61⟩, x61, h⟩ := h; try dsimp only at h
              refine wl_cs Try.call10 rfl rfl rfl (s_sp (k_queue_Queue_Add j25_n16_0N0 j25_n16_0V0 x61) (pCons Sel.hc (pApp Sel.ha pNil)) (fun _ _ => trivial)) rfl ?_
              rintro _ _ ⟨_, ⟨o61_0a0, o61_0n0, o61_0c0, o61_0B0, o61_0N0, o61_0V0, rfl, rfl⟩, rfl⟩
              refine wl_nil ?_
              simp only [Option.some.injEq] at h
              obtain rfl := h
              exact wx_join ⟨o61_0a0, o61_0n0, o61_0c0, o61_0B0, o61_0N0, o61_0V0, rfl, rfl⟩ (agree_cons rfl (agree_cons rfl (agree_cons rfl (agree_cons rfl (agree_cons rfl (agree_cons rfl (agree_cons rfl agree_nil))))))) (pSub (pCons Sel.hc (pApp Sel.ha (pApp Sel.ha pNil))))
            · replace h := cf hc h
              refine wc_region ?_
              refine wl_pure tt_ok rfl rfl ?_
              refine wl_pure (v := .pointer (some ⟨b7, 1, none⟩)) tt_ok rfl rfl ?_
              refine wl_val (v := .int .u64 v31.F) (val_load tt_ok rfl (List.Mem.tail _ (mR (mR (List.Mem.head _)))) rfl) rfl ?_
              replace h := bsome h; obtain ⟨o65_0, x65, h⟩ := h
              refine wl_cs Try.call16 rfl rfl rfl (s_sp (k_queue_Queue_Drop j25_n16_0N0 j25_n16_0V0 x65) (pCons Sel.hc (pApp Sel.ha pNil)) (fun _ _ => trivial)) rfl ?_
              rintro _ _ ⟨_, ⟨o65_0a0, o65_0n0, o65_0c0, o65_0B0, o65_0N0, o65_0V0, rfl, rfl⟩, rfl⟩
              refine wl_nil ?_
              simp only [Option.some.injEq] at h
              obtain rfl := h
              exact wx_join ⟨o65_0a0, o65_0n0, o65_0c0, o65_0B0, o65_0N0, o65_0V0, rfl, rfl⟩ (agree_cons rfl (agree_cons rfl (agree_cons rfl (agree_cons rfl (agree_cons rfl (agree_cons rfl (agree_cons rfl agree_nil))))))) (pSub (pCons Sel.hc (pApp Sel.ha (pApp Sel.ha pNil))))
          · rintro _ _ ⟨j51_n16_0a0, j51_n16_0n0, j51_n16_0c0, j51_n16_0B0, j51_n16_0N0, j51_n16_0V0, rfl, rfl⟩
            have h := hj51; clear hj51
            refine wc_seq ?_
            refine wc_seq ?_
            refine wc_region ?_
            refine wl_pure tt_ok rfl rfl ?_
            replace h := bsome h; obtain ⟨v67, x67, h⟩ := h
            refine wl_cq Try.call9 rfl rfl rfl (q_rd (k_queue_Queue_Known j51_n16_0N0 j51_n16_0V0 x67) (pCons Sel.hc (pApp Sel.ha pNil)) (fun _ _ => trivial)) rfl ?_
            refine wl_pure tt_ok rfl rfl ?_
            refine wl_pure (v := .bool (decide (v67 < v36))) tt_ok rfl rfl ?_
            refine wl_pure tt_ok rfl rfl ?_
            replace h := bsome h; obtain ⟨v75, h, hg75⟩ := h
            refine wl_split (t := 70) rfl (fun hc => ?_) (fun hc => ?_)
            · replace h := ct hc h
              refine wl_skip rfl rfl ?_
              refine wl_skip rfl rfl ?_
              refine wl_skip rfl rfl ?_
              refine wl_skip rfl rfl ?_
              simp only [Option.some.injEq, Prod.mk.injEq] at h
              obtain rfl := h
              have h := hg75; clear hg75
              refine wl_pure (v := .bool true) tt_ok rfl rfl ?_
              refine wl_pure tt_ok rfl rfl ?_
              replace h := bsome h; obtain ⟨v82, h, hg82⟩ := h
              replace h := ct rfl h
              refine wl_skip rfl rfl ?_
              refine wl_skip rfl rfl ?_
              refine wl_skip rfl rfl ?_
              refine wl_skip rfl rfl ?_
              refine wl_skip rfl rfl ?_
              simp only [Option.some.injEq, Prod.mk.injEq] at h
              obtain rfl := h
              have h := hg82; clear hg82
              refine wl_pure (v := .bool true) tt_ok rfl rfl ?_
              refine wl_nil ?_
              refine wx_then ?_
              replace h := ct rfl h
              refine wc_cond_true rfl ?_
              refine wc_seq ?_
              refine wc_region ?_
              refine wl_pure tt_ok rfl rfl ?_
              refine wl_nil ?_
              refine wx_then ?_
              refine wc_ret ?_
              refine wx_then_ret ?_
              refine wx_block_ret ?_
              refine wx_then_ret ?_
              obtain rfl := Option.some.inj h
              have h := hl25; clear hl25; try dsimp only [orE_l, orE_r] at h
              refine wx_then_ret ?_
              refine wx_block_ret ?_
              refine wx_then_ret ?_
              simp only [Option.some.injEq] at h
              obtain rfl := h
              exact wx_pf tt_ok (.inl rfl) Try.results5 (Res.tmp rfl Res.nil) rfl
            · replace h := cf hc h
              refine wl_run rfl ?_
              refine wl_pure tt_ok rfl rfl ?_
              replace h := bsome h; obtain ⟨v72, x72, h⟩ := h
              refine wl_run rfl ?_
              refine wl_cq Try.call20 rfl rfl rfl (q_rd (k_queue_Queue_First j51_n16_0N0 j51_n16_0V0 x72) (pCons Sel.hc (pApp Sel.ha pNil)) (fun _ _ => trivial)) rfl ?_
              refine wl_run rfl ?_
              refine wl_pure tt_ok rfl rfl ?_
              refine wl_run rfl ?_
              refine wl_pure (v := .bool (decide (v72 < v34))) tt_ok rfl rfl ?_
              simp only [Option.some.injEq, Prod.mk.injEq] at h
              obtain rfl := h
              have h := hg75; clear hg75
              refine wl_pure (v := .bool (decide (v72 < v34))) tt_ok rfl rfl ?_
              refine wl_pure tt_ok rfl rfl ?_
              replace h := bsome h; obtain ⟨v82, h, hg82⟩ := h
              refine wl_split (t := 76) rfl (fun hc => ?_) (fun hc => ?_)
              · replace h := ct hc h
                refine wl_skip rfl rfl ?_
                refine wl_skip rfl rfl ?_
                refine wl_skip rfl rfl ?_
                refine wl_skip rfl rfl ?_
                refine wl_skip rfl rfl ?_
                simp only [Option.some.injEq, Prod.mk.injEq] at h
                obtain rfl := h
                have h := hg82; clear hg82
                refine wl_pure (v := .bool true) tt_ok rfl rfl ?_
                refine wl_nil ?_
                refine wx_then ?_
                replace h := ct rfl h
                refine wc_cond_true rfl ?_
                refine wc_seq ?_
                refine wc_region ?_
                refine wl_pure tt_ok rfl rfl ?_
                refine wl_nil ?_
                refine wx_then ?_
                refine wc_ret ?_
                refine wx_then_ret ?_
                refine wx_block_ret ?_
                refine wx_then_ret ?_
                obtain rfl := Option.some.inj h
                have h := hl25; clear hl25; try dsimp only [orE_l, orE_r] at h
                refine wx_then_ret ?_
                refine wx_block_ret ?_
                refine wx_then_ret ?_
                simp only [Option.some.injEq] at h
                obtain rfl := h
                exact wx_pf tt_ok (.inl rfl) Try.results5 (Res.tmp rfl Res.nil) rfl
              · replace h := cf hc h
                refine wl_run rfl ?_
                refine wl_pure tt_ok rfl rfl ?_
                replace h := bsome h; obtain ⟨v78, x78, h⟩ := h
                refine wl_run rfl ?_
                refine wl_cq Try.call20 rfl rfl rfl (q_rd (k_queue_Queue_First j51_n16_0N0 j51_n16_0V0 x78) (pCons Sel.hc (pApp Sel.ha pNil)) (fun _ _ => trivial)) rfl ?_
                refine wl_run rfl ?_
                refine wl_pure tt_ok rfl rfl ?_
                replace h := bsome h; obtain ⟨v80, x80, h⟩ := h
                refine wl_run rfl ?_
                refine wl_cq Try.call9 rfl rfl rfl (q_rd (k_queue_Queue_Known j51_n16_0N0 j51_n16_0V0 x80) (pCons Sel.hc (pApp Sel.ha pNil)) (fun _ _ => trivial)) rfl ?_
                refine wl_run rfl ?_
                refine wl_pure (v := .bool (decide (v80 < v78))) tt_ok rfl rfl ?_
                simp only [Option.some.injEq, Prod.mk.injEq] at h
                obtain rfl := h
                have h := hg82; clear hg82
                refine wl_pure (v := .bool (decide (v80 < v78))) tt_ok rfl rfl ?_
                refine wl_nil ?_
                refine wx_then ?_
                refine wc_cond rfl (fun hc => ?_) (fun hc => ?_)
                · replace h := ct hc h
                  refine wc_seq ?_
                  refine wc_region ?_
                  refine wl_pure tt_ok rfl rfl ?_
                  refine wl_nil ?_
                  refine wx_then ?_
                  refine wc_ret ?_
                  refine wx_then_ret ?_
                  refine wx_block_ret ?_
                  refine wx_then_ret ?_
                  obtain rfl := Option.some.inj h
                  have h := hl25; clear hl25; try dsimp only [orE_l, orE_r] at h
                  refine wx_then_ret ?_
                  refine wx_block_ret ?_
                  refine wx_then_ret ?_
                  simp only [Option.some.injEq] at h
                  obtain rfl := h
                  exact wx_pf tt_ok (.inl rfl) Try.results5 (Res.tmp rfl Res.nil) rfl
                · replace h := cf hc h
                  refine wc_skip ?_
                  refine wx_then ?_
                  refine wc_seq ?_
                  refine wc_region ?_
                  refine wl_pure tt_ok rfl rfl ?_
                  refine wl_pure tt_ok rfl rfl ?_
                  replace h := bsome h; obtain ⟨v85, x85, h⟩ := h
                  refine wl_cq Try.call20 rfl rfl rfl (q_rd (k_queue_Queue_First j51_n16_0N0 j51_n16_0V0 x85) (pCons Sel.hc (pApp Sel.ha pNil)) (fun _ _ => trivial)) rfl ?_
                  replace h := bsome h; obtain ⟨v86, x86, h⟩ := h
                  refine wl_cs Try.call24 rfl rfl rfl (s_sp (k_queue_Queue_Slice j51_n16_0N0 j51_n16_0V0 x86) (pCons Sel.hc (pApp Sel.ha pNil)) (fun _ _ => trivial)) rfl ?_
                  rintro _ _ ⟨_, ⟨v86a0, v86n0, v86c0, v86B0, v86N0, v86V0, rfl, rfl⟩, rfl⟩
                  refine wl_pure tt_ok rfl rfl ?_
                  refine wl_nil ?_
                  refine wx_then ?_
                  refine wc_seq ?_
                  refine wc_seq ?_
                  refine wc_region ?_
                  refine wl_pure tt_ok rfl rfl ?_
                  refine wl_nil ?_
                  refine wx_then ?_
                  refine wc_block ?_
                  replace h := bsome h; obtain ⟨o68, h, hl68⟩ := h
                  refine wc_loop (fun m E L => ∃ (j68_12 : Int) (j68_11 : (List Int)) (j68_11a0 : Option Addr) (j68_11n0 : Nat) (j68_11c0 : Nat) (j68_11B0 : List Blk), m_hindcastlaw24_QueueStays_L67 F v34 v36 v39 j51_n16_0 m j68_12 j68_11 = some o68 ∧ j68_11n0 = j68_11.length ∧ Own 31 1 j68_11a0 j68_11n0 j68_11c0 (flat (e1 .u8) j68_11) j68_11B0 ∧ E = [(1, .slice p1a0 p1n0 p1c0), (4, .bool false), (5, .pointer (some ⟨b16_0, 0, none⟩)), (6, .int .i64 j25_6), (8, .int .u64 v34), (9, .int .u64 v36), (10, .slice v39a0 v39n0 v39c0), (11, .slice j68_11a0 j68_11n0 j68_11c0), (12, .int .i64 j68_12)] ∧ L = (⟨b16_0, [.int .u64 j51_n16_0.first_, .slice j51_n16_0a0 j51_n16_0n0 j51_n16_0c0, .int .u8 j51_n16_0.last], 52, (0, 0)⟩ :: (j51_n16_0B0 ++ (v39B0 ++ (j68_11B0 ++ []))))) F ⟨(0 : Int), v86, v86a0, v86n0, v86c0, v86B0, h, v86N0, v86V0, rfl, rfl⟩ (agree_cons rfl (agree_cons rfl (agree_cons rfl (agree_cons rfl (agree_cons rfl (agree_cons rfl (agree_cons rfl (agree_cons rfl (agree_cons rfl agree_nil))))))))) (pSub (pCons Sel.hc (pApp Sel.ha (pApp (Sel.sa Sel.ha) (pApp Sel.ha pNil))))) ?_
                  clear h
                  rintro m68 _ _ ⟨j68_12, j68_11, j68_11a0, j68_11n0, j68_11c0, j68_11B0, h, j68_11N0, j68_11V0, rfl, rfl⟩
                  rcases m68 with _ | m68
                  · rw [m_hindcastlaw24_QueueStays_L67.eq_1] at h; cases h
                  rw [m_hindcastlaw24_QueueStays_L67.eq_2] at h
                  refine wc_seq ?_
                  refine wc_seq ?_
                  refine wc_region ?_
                  refine wl_pure tt_ok rfl rfl ?_
                  refine wl_pure tt_ok rfl rfl ?_
                  refine wl_val (v := .int .i64 (j68_11.length : Int)) (val_len tt_ok rfl rfl j68_11N0) rfl ?_
                  refine wl_pure (v := .bool (decide (j68_12 < (j68_11.length : Int)))) tt_ok rfl rfl ?_
                  refine wl_nil ?_
                  refine wx_then ?_
                  refine wc_cond rfl (fun hc => ?_) (fun hc => ?_)
                  · replace h := ct hc h
                    refine wc_skip ?_
                    refine wx_then ?_
                    refine wc_seq ?_
                    refine wc_block ?_
                    refine wc_seq ?_
                    refine wc_region ?_
                    refine wl_pure tt_ok rfl rfl ?_
                    replace h := bsome h; obtain ⟨v94, x94, h⟩ := h
                    refine wl_cq Try.call20 rfl rfl rfl (q_rd (k_queue_Queue_First j51_n16_0N0 j51_n16_0V0 x94) (pCons Sel.hc (pApp Sel.ha pNil)) (fun _ _ => trivial)) rfl ?_
                    refine wl_pure tt_ok rfl rfl ?_
                    refine wl_pure (v := .int .u64 (IntKind.wrap .u64 j68_12)) tt_ok rfl rfl ?_
                    refine wl_pure (v := .int .u64 (IntKind.wrap .u64 (v94 + (IntKind.wrap .u64 j68_12)))) tt_ok rfl rfl ?_
                    refine wl_pure tt_ok rfl rfl ?_
                    refine wl_nil ?_
                    refine wx_then ?_
                    refine wc_seq ?_
                    refine wc_seq ?_
                    refine wc_quiet (by kernel_rfl) (by kernel_rfl) ?_
                    refine wq_pure tt_ok rfl rfl ?_
                    refine wq_pure tt_ok rfl rfl ?_
                    refine wq_pure (v := .bool (decide ((IntKind.wrap .u64 (v94 + (IntKind.wrap .u64 j68_12))) < v36))) tt_ok rfl rfl ?_
                    refine wq_pure tt_ok rfl rfl ?_
                    replace h := bsome h; obtain ⟨v113, h, hg113⟩ := h
                    refine wq_split (t := 101) rfl (fun hc => ?_) (fun hc => ?_)
                    · replace h := ct hc h
                      refine wq_run rfl ?_
                      refine wq_pure tt_ok rfl rfl ?_
                      refine wq_run rfl ?_
                      refine wq_pure tt_ok rfl rfl ?_
                      replace h := bsome h; obtain ⟨v104, x104, h⟩ := h
                      refine wq_run rfl ?_
                      refine wq_val (v := .pointer (some ((adOf j68_11a0).add (j68_12.toNat * 1 + 0)))) (val_ix (enc := (e1 .u8)) tt_ok rfl rfl rfl rfl j68_11N0 (Rds.of_vec j68_11V0) (e1_len _) rfl x104) rfl ?_
                      refine wq_run rfl ?_
                      refine wq_val (v := .int .u8 v104) (val_le (enc := (e1 .u8)) (xs := j68_11) tt_ok rfl (Rds.of_vec j68_11V0) ⟨_, (Sel.sc (Sel.sa (Sel.sa Sel.ha)))⟩ (e1_len _) x104 rfl) rfl ?_
                      refine wq_run rfl ?_
                      refine wq_pure tt_ok rfl rfl ?_
                      refine wq_run rfl ?_
                      refine wq_pure tt_ok rfl rfl ?_
                      refine wq_run rfl ?_
                      refine wq_pure tt_ok rfl rfl ?_
                      refine wq_run rfl ?_
                      refine wq_pure (v := .int .u64 (IntKind.wrap .u64 ((IntKind.wrap .u64 (v94 + (IntKind.wrap .u64 j68_12))) - v34))) tt_ok rfl rfl ?_
                      replace h := bsome h; obtain ⟨v110, x110, h⟩ := h
                      refine wq_run rfl ?_
                      refine wq_val (v := .pointer (some ((adOf v39a0).add ((IntKind.wrap .u64 ((IntKind.wrap .u64 (v94 + (IntKind.wrap .u64 j68_12))) - v34)).toNat * 1 + 0)))) (val_ix (enc := (e1 .u8)) tt_ok rfl rfl rfl rfl v39N0 (Rds.of_vec v39V0) (e1_len _) rfl x110) rfl ?_
                      refine wq_run rfl ?_
                      refine wq_val (v := .int .u8 v110) (val_le (enc := (e1 .u8)) (xs := v39) tt_ok rfl (Rds.of_vec v39V0) ⟨_, (Sel.sc (Sel.sa Sel.ha))⟩ (e1_len _) x110 rfl) rfl ?_
                      refine wq_run rfl ?_
                      refine wq_pure (v := .bool (v104 != v110)) tt_ok rfl rfl ?_
                      simp only [Option.some.injEq, Prod.mk.injEq] at h
                      obtain rfl := h
                      have h := hg113; clear hg113
                      refine wq_pure (v := .bool (v104 != v110)) tt_ok rfl rfl ?_
                      refine wq_nil ?_
                      refine wx_then ?_
                      refine wc_cond rfl (fun hc => ?_) (fun hc => ?_)
                      · replace h := ct hc h
                        refine wc_seq ?_
                        refine wc_region ?_
                        refine wl_pure tt_ok rfl rfl ?_
                        refine wl_nil ?_
                        refine wx_then ?_
                        refine wc_ret ?_
                        refine wx_then_ret ?_
                        refine wx_block_ret ?_
                        refine wx_then_ret ?_
                        obtain rfl := Option.some.inj h
                        have h := hl68; clear hl68; try dsimp only [orE_l, orE_r] at h
                        refine wx_then_ret ?_
                        refine wx_block_ret ?_
                        refine wx_then_ret ?_
                        refine wx_block_ret ?_
                        refine wx_then_ret ?_
                        obtain rfl := Option.some.inj h
                        have h := hl25; clear hl25; try dsimp only [orE_l, orE_r] at h
                        refine wx_then_ret ?_
                        refine wx_block_ret ?_
                        refine wx_then_ret ?_
                        simp only [Option.some.injEq] at h
                        obtain rfl := h
                        exact wx_pf tt_ok (.inl rfl) Try.results5 (Res.tmp rfl Res.nil) rfl
                      · replace h := cf hc h
                        refine wc_skip ?_
                        refine wx_then ?_
                        refine wc_region ?_
                        refine wl_pure tt_ok rfl rfl ?_
                        refine wl_pure tt_ok rfl rfl ?_
                        replace h := bsome h; obtain ⟨v116, x116, h⟩ := h
                        refine wl_val (v := .pointer (some ((adOf j68_11a0).add (j68_12.toNat * 1 + 0)))) (val_ix (enc := (e1 .u8)) tt_ok rfl rfl rfl rfl j68_11N0 (Rds.of_vec j68_11V0) (e1_len _) rfl x116) rfl ?_
                        refine wl_chg0 (chg_ste (enc := (e1 .u8)) (y' := (99 : Int)) tt_ok rfl rfl rfl rfl rfl rfl j68_11N0 j68_11V0 (Sel.sc (Sel.sa (Sel.sa Sel.ha))) (e1_len _) x116 rfl (by intro h; cases h)) ?_
                        rintro _ _ ⟨Bs87_3, Ns87_3, Vs87_3, rfl⟩
                        refine wl_nil ?_
                        refine wx_block ?_
                        refine wx_then ?_
                        refine wc_region ?_
                        refine wl_pure tt_ok rfl rfl ?_
                        refine wl_pure (v := .int .i64 (IntKind.wrap .i64 (j68_12 + (1 : Int)))) tt_ok rfl rfl ?_
                        refine wl_pure tt_ok rfl rfl ?_
                        refine wl_nil ?_
                        exact wx_round m68 (Nat.lt_succ_self m68) ⟨(IntKind.wrap .i64 (j68_12 + (1 : Int))), (setI j68_11 j68_12 (99 : Int)), j68_11a0, j68_11n0, j68_11c0, Bs87_3, h, Ns87_3, Vs87_3, rfl, rfl⟩ (agree_cons rfl (agree_cons rfl (agree_cons rfl (agree_cons rfl (agree_cons rfl (agree_cons rfl (agree_cons rfl (agree_cons rfl (agree_cons rfl agree_nil))))))))) (pSub (pCons (Sel.sa Sel.hc) (pApp (Sel.sa Sel.ha) (pApp (Sel.sa Sel.ha) (pApp Sel.ha pNil)))))
                    · replace h := cf hc h
                      refine wq_skip rfl rfl ?_
                      refine wq_skip rfl rfl ?_
                      refine wq_skip rfl rfl ?_
                      refine wq_skip rfl rfl ?_
                      refine wq_skip rfl rfl ?_
                      refine wq_skip rfl rfl ?_
                      refine wq_skip rfl rfl ?_
                      refine wq_skip rfl rfl ?_
                      refine wq_skip rfl rfl ?_
                      refine wq_skip rfl rfl ?_
                      refine wq_skip rfl rfl ?_
                      simp only [Option.some.injEq, Prod.mk.injEq] at h
                      obtain rfl := h
                      have h := hg113; clear hg113
                      refine wq_pure (v := .bool false) tt_ok rfl rfl ?_
                      refine wq_nil ?_
                      refine wx_then ?_
                      replace h := cf rfl h
                      refine wc_cond_false rfl ?_
                      refine wc_skip ?_
                      refine wx_then ?_
                      refine wc_region ?_
                      refine wl_pure tt_ok rfl rfl ?_
                      refine wl_pure tt_ok rfl rfl ?_
                      replace h := bsome h; obtain ⟨v116, x116, h⟩ := h
                      refine wl_val (v := .pointer (some ((adOf j68_11a0).add (j68_12.toNat * 1 + 0)))) (val_ix (enc := (e1 .u8)) tt_ok rfl rfl rfl rfl j68_11N0 (Rds.of_vec j68_11V0) (e1_len _) rfl x116) rfl ?_
                      refine wl_chg0 (chg_ste (enc := (e1 .u8)) (y' := (99 : Int)) tt_ok rfl rfl rfl rfl rfl rfl j68_11N0 j68_11V0 (Sel.sc (Sel.sa (Sel.sa Sel.ha))) (e1_len _) x116 rfl (by intro h; cases h)) ?_
                      rintro _ _ ⟨Bs87_3, Ns87_3, Vs87_3, rfl⟩
                      refine wl_nil ?_
                      refine wx_block ?_
                      refine wx_then ?_
                      refine wc_region ?_
                      refine wl_pure tt_ok rfl rfl ?_
                      refine wl_pure (v := .int .i64 (IntKind.wrap .i64 (j68_12 + (1 : Int)))) tt_ok rfl rfl ?_
                      refine wl_pure tt_ok rfl rfl ?_
                      refine wl_nil ?_
                      exact wx_round m68 (Nat.lt_succ_self m68) ⟨(IntKind.wrap .i64 (j68_12 + (1 : Int))), (setI j68_11 j68_12 (99 : Int)), j68_11a0, j68_11n0, j68_11c0, Bs87_3, h, Ns87_3, Vs87_3, rfl, rfl⟩ (agree_cons rfl (agree_cons rfl (agree_cons rfl (agree_cons rfl (agree_cons rfl (agree_cons rfl (agree_cons rfl (agree_cons rfl (agree_cons rfl agree_nil))))))))) (pSub (pCons (Sel.sa Sel.hc) (pApp (Sel.sa Sel.ha) (pApp (Sel.sa Sel.ha) (pApp Sel.ha pNil)))))
                  · replace h := cf hc h
                    refine wc_exit ?_
                    refine wx_then_exit ?_
                    obtain rfl := Option.some.inj h
                    have h := hl68; clear hl68; try dsimp only [orE_l, orE_r] at h
                    refine wx_then_exit ?_
                    refine wx_block_exit ?_
                    refine wx_then ?_
                    refine wc_seq ?_
                    refine wc_region ?_
                    refine wl_pure tt_ok rfl rfl ?_
                    replace h := bsome h; obtain ⟨v118, x118, h⟩ := h
                    refine wl_cq Try.call20 rfl rfl rfl (q_rd (k_queue_Queue_First j51_n16_0N0 j51_n16_0V0 x118) (pCons Sel.hc (pApp Sel.ha pNil)) (fun _ _ => trivial)) rfl ?_
                    refine wl_pure tt_ok rfl rfl ?_
                    refine wl_nil ?_
                    refine wx_then ?_
                    refine wc_block ?_
                    replace h := bsome h; obtain ⟨o92, h, hl92⟩ := h
                    refine wc_loop (fun m E L => ∃ (j92_14 : Int), m_hindcastlaw24_QueueStays_L91 F v34 v36 v39 j51_n16_0 false m j92_14 = some o92 ∧ E = [(1, .slice p1a0 p1n0 p1c0), (4, .bool false), (5, .pointer (some ⟨b16_0, 0, none⟩)), (6, .int .i64 j25_6), (8, .int .u64 v34), (9, .int .u64 v36), (10, .slice v39a0 v39n0 v39c0), (14, .int .u64 j92_14)] ∧ L = (⟨b16_0, [.int .u64 j51_n16_0.first_, .slice j51_n16_0a0 j51_n16_0n0 j51_n16_0c0, .int .u8 j51_n16_0.last], 52, (0, 0)⟩ :: (j51_n16_0B0 ++ (v39B0 ++ [])))) F ⟨v118, h, rfl, rfl⟩ (agree_cons rfl (agree_cons rfl (agree_cons rfl (agree_cons rfl (agree_cons rfl (agree_cons rfl (agree_cons rfl (agree_cons rfl agree_nil)))))))) (pSub (pCons Sel.hc (pApp Sel.ha (pApp Sel.ha pNil)))) ?_
                    clear h
                    rintro m92 _ _ ⟨j92_14, h, rfl, rfl⟩
                    rcases m92 with _ | m92
                    · rw [m_hindcastlaw24_QueueStays_L91.eq_1] at h; cases h
                    rw [m_hindcastlaw24_QueueStays_L91.eq_2] at h
                    refine wc_seq ?_
                    refine wc_seq ?_
                    refine wc_region ?_
                    refine wl_pure tt_ok rfl rfl ?_
                    refine wl_pure tt_ok rfl rfl ?_
                    refine wl_pure (v := .bool (decide (j92_14 < v36))) tt_ok rfl rfl ?_
                    refine wl_nil ?_
                    refine wx_then ?_
                    refine wc_cond rfl (fun hc => ?_) (fun hc => ?_)
                    · replace h := ct hc h
                      refine wc_skip ?_
                      refine wx_then ?_
                      refine wc_seq ?_
                      refine wc_block ?_
                      refine wc_seq ?_
                      refine wc_region ?_
                      refine wl_pure tt_ok rfl rfl ?_
                      refine wl_pure tt_ok rfl rfl ?_
                      refine wl_pure tt_ok rfl rfl ?_
                      refine wl_pure tt_ok rfl rfl ?_
                      refine wl_pure tt_ok rfl rfl ?_
                      refine wl_pure (v := .int .u64 (IntKind.wrap .u64 (j92_14 - v34))) tt_ok rfl rfl ?_
                      replace h := bsome h; obtain ⟨v130, x130, h⟩ := h
                      refine wl_val (v := .pointer (some ((adOf v39a0).add ((IntKind.wrap .u64 (j92_14 - v34)).toNat * 1 + 0)))) (val_ix (enc := (e1 .u8)) tt_ok rfl rfl rfl rfl v39N0 (Rds.of_vec v39V0) (e1_len _) rfl x130) rfl ?_
                      refine wl_val (v := .int .u8 v130) (val_le (enc := (e1 .u8)) (xs := v39) tt_ok rfl (Rds.of_vec v39V0) ⟨_, (Sel.sc (Sel.sa Sel.ha))⟩ (e1_len _) x130 rfl) rfl ?_
                      replace h := bsome h; obtain ⟨v132, x132, h⟩ := h
                      refine wl_cq Try.call11 rfl rfl rfl (q_rd (k_hindcastlaw24_at j51_n16_0N0 j51_n16_0V0 x132) (pCons Sel.hc (pApp Sel.ha pNil)) (fun _ _ => trivial)) rfl ?_
                      refine wl_pure (v := .bool (!v132)) tt_ok rfl rfl ?_
                      refine wl_nil ?_
                      refine wx_then ?_
                      refine wc_cond rfl (fun hc => ?_) (fun hc => ?_)
                      · replace h := ct hc h
                        refine wc_seq ?_
                        refine wc_region ?_
                        refine wl_pure tt_ok rfl rfl ?_
                        refine wl_nil ?_
                        refine wx_then ?_
                        refine wc_ret ?_
                        refine wx_block_ret ?_
                        refine wx_then_ret ?_
                        obtain rfl := Option.some.inj h
                        have h := hl92; clear hl92; try dsimp only [orE_l, orE_r] at h
                        refine wx_then_ret ?_
                        refine wx_block_ret ?_
                        refine wx_block_ret ?_
                        refine wx_then_ret ?_
                        obtain rfl := Option.some.inj h
                        have h := hl25; clear hl25; try dsimp only [orE_l, orE_r] at h
                        refine wx_then_ret ?_
                        refine wx_block_ret ?_
                        refine wx_then_ret ?_
                        simp only [Option.some.injEq] at h
                        obtain rfl := h
                        exact wx_pf tt_ok (.inl rfl) Try.results5 (Res.tmp rfl Res.nil) rfl
                      · replace h := cf hc h
                        refine wc_skip ?_
                        refine wx_block ?_
                        refine wx_then ?_
                        refine wc_region ?_
                        refine wl_pure tt_ok rfl rfl ?_
                        refine wl_pure (v := .int .u64 (IntKind.wrap .u64 (j92_14 + (1 : Int)))) tt_ok rfl rfl ?_
                        refine wl_pure tt_ok rfl rfl ?_
                        refine wl_nil ?_
                        exact wx_round m92 (Nat.lt_succ_self m92) ⟨(IntKind.wrap .u64 (j92_14 + (1 : Int))), h, rfl, rfl⟩ (agree_cons rfl (agree_cons rfl (agree_cons rfl (agree_cons rfl (agree_cons rfl (agree_cons rfl (agree_cons rfl (agree_cons rfl agree_nil)))))))) (pSub (pCons Sel.hc (pApp Sel.ha (pApp Sel.ha pNil))))
                    · replace h := cf hc h
                      refine wc_exit ?_
                      refine wx_then_exit ?_
                      obtain rfl := Option.some.inj h
                      have h := hl92; clear hl92; try dsimp only [orE_l, orE_r] at h
                      refine wx_then_exit ?_
                      refine wx_block_exit ?_
                      refine wx_block ?_
                      refine wx_then ?_
                      refine wc_region ?_
                      refine wl_pure tt_ok rfl rfl ?_
                      refine wl_pure (v := .int .i64 (IntKind.wrap .i64 (j25_6 + (1 : Int)))) tt_ok rfl rfl ?_
                      refine wl_pure tt_ok rfl rfl ?_
                      refine wl_nil ?_
                      exact wx_round m25 (Nat.lt_succ_self m25) ⟨(IntKind.wrap .i64 (j25_6 + (1 : Int))), j51_n16_0, j51_n16_0a0, j51_n16_0n0, j51_n16_0c0, j51_n16_0B0, h, j51_n16_0N0, j51_n16_0V0, rfl, rfl⟩ (agree_cons rfl (agree_cons rfl (agree_cons rfl (agree_cons rfl agree_nil)))) (pSub (pCons Sel.hc (pApp Sel.ha pNil)))
    · replace h := cf hc h
      refine wc_exit ?_
      refine wx_then_exit ?_
      obtain rfl := Option.some.inj h
      have h := hl25; clear hl25; try dsimp only [orE_l, orE_r] at h
      refine wx_then_exit ?_
      refine wx_block_exit ?_
      refine wx_then ?_
      refine wc_seq ?_
      refine wc_region ?_
      replace h := bsome h; obtain ⟨v134, x134, h⟩ := h
      refine wl_cq Try.call7 rfl rfl rfl (q_pf (k_hindcastlaw24_works x134) (fun _ _ => trivial)) rfl ?_
      refine wl_pure tt_ok rfl rfl ?_
      refine wl_nil ?_
      refine wx_then ?_
      refine wc_ret ?_
      simp only [Option.some.injEq] at h
      obtain rfl := h
      exact wx_pf tt_ok (.inl rfl) Try.results5 (Res.tmp rfl Res.nil) rfl

theorem k_hindcastlaw24_is {F : Nat} {p0 : (List Int)} {p0a0 : Option Addr} {p0n0 p0c0 : Nat} {p1 : (List Int)} {p1a0 : Option Addr} {p1n0 p1c0 : Nat} {r0 : Bool} (p0N0 : p0n0 = p0.length) (p0H0 : p0n0 ≤ p0c0) (p1N0 : p1n0 = p1.length) (p1H0 : p1n0 ≤ p1c0) (h : m_hindcastlaw24_is F p0 p1 = some r0) :
    Pf Try.prog 26 [.slice p0a0 p0n0 p0c0, .slice p1a0 p1n0 p1c0] (fun w => Rds w [] [] p0a0 (flat (e1 .u8) p0) ∧ Rds w [] [] p1a0 (flat (e1 .u8) p1)) (.bool r0) := by
  unfold m_hindcastlaw24_is at h
  refine pf_of_wc Try.func26 rfl Try.ntmps26 rfl rfl (fun w0 hR => ?_)
  obtain ⟨p0S0, p1S0⟩ := hR
  refine wc_seq ?_
  refine wc_region ?_
  refine wl_pure tt_ok rfl rfl ?_
  refine wl_nil ?_
  refine wx_then ?_
  refine wc_seq ?_
  refine wc_seq ?_
  refine wc_region ?_
  refine wl_pure tt_ok rfl rfl ?_
  refine wl_val (v := .int .i64 (p0.length : Int)) (val_len tt_ok rfl rfl p0N0) rfl ?_
  refine wl_pure tt_ok rfl rfl ?_
  refine wl_val (v := .int .i64 (p1.length : Int)) (val_len tt_ok rfl rfl p1N0) rfl ?_
  refine wl_pure (v := .bool ((p0.length : Int) != (p1.length : Int))) tt_ok rfl rfl ?_
  refine wl_nil ?_
  refine wx_then ?_
  refine wc_cond rfl (fun hc => ?_) (fun hc => ?_)
  · replace h := ct hc h
    refine wc_seq ?_
    refine wc_region ?_
    refine wl_pure tt_ok rfl rfl ?_
    refine wl_nil ?_
    refine wx_then ?_
    refine wc_ret ?_
    refine wx_then_ret ?_
    simp only [Option.some.injEq] at h
    obtain rfl := h
    exact wx_pf tt_ok (.inl rfl) Try.results26 (Res.tmp rfl Res.nil) rfl
  · replace h := cf hc h
    refine wc_skip ?_
    refine wx_then ?_
    refine wc_seq ?_
    refine wc_seq ?_
    refine wc_region ?_
    refine wl_pure tt_ok rfl rfl ?_
    refine wl_nil ?_
    refine wx_then ?_
    refine wc_block ?_
    replace h := bsome h; obtain ⟨o15, h, hl15⟩ := h
    refine wc_loop (fun m E L => ∃ (j15_5 : Int), m_hindcastlaw24_is_L14 F p0 p1 m j15_5 = some o15 ∧ E = [(0, .slice p0a0 p0n0 p0c0), (1, .slice p1a0 p1n0 p1c0), (4, .bool false), (5, .int .i64 j15_5)] ∧ L = []) F ⟨(0 : Int), h, rfl, rfl⟩ (agree_cons rfl (agree_cons rfl (agree_cons rfl (agree_cons rfl agree_nil)))) (pSub pNil) ?_
    clear h
    rintro m15 _ _ ⟨j15_5, h, rfl, rfl⟩
    rcases m15 with _ | m15
    · rw [m_hindcastlaw24_is_L14.eq_1] at h; cases h
    rw [m_hindcastlaw24_is_L14.eq_2] at h
    refine wc_seq ?_
    refine wc_seq ?_
    refine wc_region ?_
    refine wl_pure tt_ok rfl rfl ?_
    refine wl_pure tt_ok rfl rfl ?_
    refine wl_val (v := .int .i64 (p0.length : Int)) (val_len tt_ok rfl rfl p0N0) rfl ?_
    refine wl_pure (v := .bool (decide (j15_5 < (p0.length : Int)))) tt_ok rfl rfl ?_
    refine wl_nil ?_
    refine wx_then ?_
    refine wc_cond rfl (fun hc => ?_) (fun hc => ?_)
    · replace h := ct hc h
      refine wc_skip ?_
      refine wx_then ?_
      refine wc_seq ?_
      refine wc_block ?_
      refine wc_seq ?_
      refine wc_quiet (by kernel_rfl) (by kernel_rfl) ?_
      refine wq_pure tt_ok rfl rfl ?_
      refine wq_pure tt_ok rfl rfl ?_
      replace h := bsome h; obtain ⟨v19, x19, h⟩ := h
      refine wq_val (v := .pointer (some ((adOf p0a0).add (j15_5.toNat * 1 + 0)))) (val_ix (enc := (e1 .u8)) tt_ok rfl rfl rfl rfl p0N0 p0S0 (e1_len _) rfl x19) rfl ?_
      refine wq_val (v := .int .u8 v19) (val_le (enc := (e1 .u8)) (xs := p0) tt_ok rfl p0S0 rsub_nil (e1_len _) x19 rfl) rfl ?_
      refine wq_pure tt_ok rfl rfl ?_
      refine wq_pure tt_ok rfl rfl ?_
      replace h := bsome h; obtain ⟨v23, x23, h⟩ := h
      refine wq_val (v := .pointer (some ((adOf p1a0).add (j15_5.toNat * 1 + 0)))) (val_ix (enc := (e1 .u8)) tt_ok rfl rfl rfl rfl p1N0 p1S0 (e1_len _) rfl x23) rfl ?_
      refine wq_val (v := .int .u8 v23) (val_le (enc := (e1 .u8)) (xs := p1) tt_ok rfl p1S0 rsub_nil (e1_len _) x23 rfl) rfl ?_
      refine wq_pure (v := .bool (v19 != v23)) tt_ok rfl rfl ?_
      refine wq_nil ?_
      refine wx_then ?_
      refine wc_cond rfl (fun hc => ?_) (fun hc => ?_)
      · replace h := ct hc h
        refine wc_seq ?_
        refine wc_region ?_
        refine wl_pure tt_ok rfl rfl ?_
        refine wl_nil ?_
        refine wx_then ?_
        refine wc_ret ?_
        refine wx_block_ret ?_
        refine wx_then_ret ?_
        obtain rfl := Option.some.inj h
        have h := hl15; clear hl15; try dsimp only [orE_l, orE_r] at h
        refine wx_then_ret ?_
        refine wx_block_ret ?_
        refine wx_then_ret ?_
        simp only [Option.some.injEq] at h
        obtain rfl := h
        exact wx_pf tt_ok (.inl rfl) Try.results26 (Res.tmp rfl Res.nil) rfl
      · replace h := cf hc h
        refine wc_skip ?_
        refine wx_block ?_
        refine wx_then ?_
        refine wc_region ?_
        refine wl_pure tt_ok rfl rfl ?_
        refine wl_pure (v := .int .i64 (IntKind.wrap .i64 (j15_5 + (1 : Int)))) tt_ok rfl rfl ?_
        refine wl_pure tt_ok rfl rfl ?_
        refine wl_nil ?_
        exact wx_round m15 (Nat.lt_succ_self m15) ⟨(IntKind.wrap .i64 (j15_5 + (1 : Int))), h, rfl, rfl⟩ (agree_cons rfl (agree_cons rfl (agree_cons rfl (agree_cons rfl agree_nil)))) (pSub pNil)
    · replace h := cf hc h
      refine wc_exit ?_
      refine wx_then_exit ?_
      obtain rfl := Option.some.inj h
      have h := hl15; clear hl15; try dsimp only [orE_l, orE_r] at h
      refine wx_then_exit ?_
      refine wx_block_exit ?_
      refine wx_then ?_
      refine wc_seq ?_
      refine wc_region ?_
      refine wl_pure tt_ok rfl rfl ?_
      refine wl_nil ?_
      refine wx_then ?_
      refine wc_ret ?_
      simp only [Option.some.injEq] at h
      obtain rfl := h
      exact wx_pf tt_ok (.inl rfl) Try.results26 (Res.tmp rfl Res.nil) rfl

theorem k_queue_Queue_Drop_nil0 {F : Nat} {p1 : Int} (h : m_queue_Queue_Drop_nil0 F p1 = some ()) :
    Pf Try.prog 16 [.pointer none, .int .u64 p1] (fun w => True) (.tuple #[]) := by
  unfold m_queue_Queue_Drop_nil0 at h
  refine pf_of_wc Try.func16 rfl Try.ntmps16 rfl rfl (fun w0 hR => ?_)
  refine wc_seq ?_
  refine wc_seq ?_
  refine wc_region ?_
  refine wl_pure tt_ok rfl rfl ?_
  refine wl_pure (v := .bool true) tt_ok rfl rfl ?_
  refine wl_pure tt_ok rfl rfl ?_
  refine wl_skip rfl rfl ?_
  refine wl_skip rfl rfl ?_
  refine wl_skip rfl rfl ?_
  refine wl_skip rfl rfl ?_
  refine wl_skip rfl rfl ?_
  refine wl_skip rfl rfl ?_
  refine wl_pure (v := .bool true) tt_ok rfl rfl ?_
  refine wl_nil ?_
  refine wx_then ?_
  refine wc_cond_true rfl ?_
  refine wc_ret ?_
  refine wx_then_ret ?_
  exact wx_pf tt_ok (.inl rfl) Try.results16 Res.nil rfl

theorem k_queue_Queue_Add_nil0 {F : Nat} {p1 : Int} {p2 : Int} {r0 : Int} (h : m_queue_Queue_Add_nil0 F p1 p2 = some r0) :
    Pf Try.prog 10 [.pointer none, .int .u64 p1, .int .u8 p2] (fun w => True) (.int .i64 r0) := by
  unfold m_queue_Queue_Add_nil0 at h
  refine pf_of_wc Try.func10 rfl Try.ntmps10 rfl rfl (fun w0 hR => ?_)
  refine wc_seq ?_
  refine wc_region ?_
  refine wl_pure tt_ok rfl rfl ?_
  refine wl_nil ?_
  refine wx_then ?_
  refine wc_seq ?_
  refine wc_block ?_
  refine wc_seq ?_
  refine wc_region ?_
  refine wl_pure tt_ok rfl rfl ?_
  refine wl_pure (v := .bool true) tt_ok rfl rfl ?_
  refine wl_pure tt_ok rfl rfl ?_
  refine wl_nil ?_
  refine wx_then ?_
  refine wc_cond_true rfl ?_
  refine wc_seq ?_
  refine wc_region ?_
  refine wl_pure tt_ok rfl rfl ?_
  refine wl_nil ?_
  refine wx_then ?_
  refine wc_ret ?_
  refine wx_block_ret ?_
  refine wx_then_ret ?_
  simp only [Option.some.injEq] at h
  obtain rfl := h
  exact wx_pf tt_ok (.inl rfl) Try.results10 (Res.tmp rfl Res.nil) rfl

theorem k_queue_Queue_Known_nil0 {F : Nat} {r0 : Int} (h : m_queue_Queue_Known_nil0 F = some r0) :
    Pf Try.prog 9 [.pointer none] (fun w => True) (.int .u64 r0) := by
  unfold m_queue_Queue_Known_nil0 at h
  refine pf_of_wc Try.func9 rfl Try.ntmps9 rfl rfl (fun w0 hR => ?_)
  refine wc_seq ?_
  refine wc_region ?_
  refine wl_pure tt_ok rfl rfl ?_
  refine wl_nil ?_
  refine wx_then ?_
  refine wc_seq ?_
  refine wc_seq ?_
  refine wc_region ?_
  refine wl_pure tt_ok rfl rfl ?_
  refine wl_pure (v := .bool true) tt_ok rfl rfl ?_
  refine wl_nil ?_
  refine wx_then ?_
  refine wc_cond_true rfl ?_
  refine wc_seq ?_
  refine wc_region ?_
  refine wl_pure tt_ok rfl rfl ?_
  refine wl_nil ?_
  refine wx_then ?_
  refine wc_ret ?_
  refine wx_then_ret ?_
  simp only [Option.some.injEq] at h
  obtain rfl := h
  exact wx_pf tt_ok (.inl rfl) Try.results9 (Res.tmp rfl Res.nil) rfl

theorem k_queue_Queue_First_nil0 {F : Nat} {r0 : Int} (h : m_queue_Queue_First_nil0 F = some r0) :
    Pf Try.prog 20 [.pointer none] (fun w => True) (.int .u64 r0) := by
  unfold m_queue_Queue_First_nil0 at h
  refine pf_of_wc Try.func20 rfl Try.ntmps20 rfl rfl (fun w0 hR => ?_)
  refine wc_seq ?_
  refine wc_region ?_
  refine wl_pure tt_ok rfl rfl ?_
  refine wl_nil ?_
  refine wx_then ?_
  refine wc_seq ?_
  refine wc_seq ?_
  refine wc_region ?_
  refine wl_pure tt_ok rfl rfl ?_
  refine wl_pure (v := .bool true) tt_ok rfl rfl ?_
  refine wl_nil ?_
  refine wx_then ?_
  refine wc_cond_true rfl ?_
  refine wc_seq ?_
  refine wc_region ?_
  refine wl_pure tt_ok rfl rfl ?_
  refine wl_nil ?_
  refine wx_then ?_
  refine wc_ret ?_
  refine wx_then_ret ?_
  simp only [Option.some.injEq] at h
  obtain rfl := h
  exact wx_pf tt_ok (.inl rfl) Try.results20 (Res.tmp rfl Res.nil) rfl

theorem k_queue_Queue_from_nil0 {F : Nat} {p1 : Int} {r0 : (List Int)} (h : m_queue_Queue_from_nil0 F p1 = some r0) :
    SpD Try.prog 28 [.pointer none, .int .u64 p1] [] (fun w => True) (fun v D => ∃ (r0a0 : Option Addr) (r0n0 r0c0 : Nat) (r0B0 : List Blk), r0n0 = r0.length ∧ Own 31 1 r0a0 r0n0 r0c0 (flat (e1 .u8) r0) r0B0 ∧ v = .slice r0a0 r0n0 r0c0 ∧ D = fun F => (r0B0 ++ F)) := by
  unfold m_queue_Queue_from_nil0 at h
  refine sp_of_wc Try.func28 rfl Try.ntmps28 rfl rfl (fun w0 hR => ?_)
  refine wc_seq ?_
  refine wc_region ?_
  refine wl_pure tt_ok rfl rfl ?_
  refine wl_nil ?_
  refine wx_then ?_
  refine wc_seq ?_
  refine wc_seq ?_
  refine wc_region ?_
  refine wl_pure tt_ok rfl rfl ?_
  refine wl_pure (v := .bool true) tt_ok rfl rfl ?_
  refine wl_pure tt_ok rfl rfl ?_
  refine wl_skip rfl rfl ?_
  refine wl_skip rfl rfl ?_
  refine wl_skip rfl rfl ?_
  refine wl_skip rfl rfl ?_
  refine wl_skip rfl rfl ?_
  refine wl_skip rfl rfl ?_
  refine wl_pure (v := .bool true) tt_ok rfl rfl ?_
  refine wl_pure tt_ok rfl rfl ?_
  refine wl_skip rfl rfl ?_
  refine wl_skip rfl rfl ?_
  refine wl_skip rfl rfl ?_
  refine wl_skip rfl rfl ?_
  refine wl_pure (v := .bool true) tt_ok rfl rfl ?_
  refine wl_nil ?_
  refine wx_then ?_
  refine wc_cond_true rfl ?_
  refine wc_seq ?_
  refine wc_region ?_
  refine wl_pure tt_ok rfl rfl ?_
  refine wl_nil ?_
  refine wx_then ?_
  refine wc_ret ?_
  refine wx_then_ret ?_
  simp only [Option.some.injEq] at h
  obtain rfl := h
  exact wx_spD tt_ok (.inl rfl) Try.results28 (Res.tmp rfl Res.nil) ⟨none, 0, 0, [], rfl, Own.zero, rfl, rfl⟩ (fun F => by simp) (pSub (pNo pNil))

theorem k_queue_Queue_At_nil0 {F : Nat} {p1 : Int} {r0 : Int} {r1 : Bool} (h : m_queue_Queue_At_nil0 F p1 = some (r0, r1)) :
    Pf Try.prog 18 [.pointer none, .int .u64 p1] (fun w => True) (.tuple #[.int .u8 r0, .bool r1]) := by
  unfold m_queue_Queue_At_nil0 at h
  refine pf_of_wc Try.func18 rfl Try.ntmps18 rfl rfl (fun w0 hR => ?_)
  refine wc_seq ?_
  refine wc_region ?_
  refine wl_pure tt_ok rfl rfl ?_
  refine wl_pure tt_ok rfl rfl ?_
  refine wl_nil ?_
  refine wx_then ?_
  refine wc_seq ?_
  refine wc_seq ?_
  refine wc_region ?_
  refine wl_pure tt_ok rfl rfl ?_
  refine wl_pure tt_ok rfl rfl ?_
  replace h := bsome h; obtain ⟨v9, x9, h⟩ := h
  refine wl_cs Try.call28 rfl rfl rfl (s_sp (k_queue_Queue_from_nil0 x9) pNil (fun _ _ => trivial)) rfl ?_
  rintro _ _ ⟨_, ⟨v9a0, v9n0, v9c0, v9B0, v9N0, v9V0, rfl, rfl⟩, rfl⟩
  refine wl_pure tt_ok rfl rfl ?_
  refine wl_nil ?_
  refine wx_then ?_
  refine wc_seq ?_
  refine wc_region ?_
  refine wl_pure tt_ok rfl rfl ?_
  refine wl_val (v := .int .i64 (v9.length : Int)) (val_len tt_ok rfl rfl v9N0) rfl ?_
  refine wl_pure (v := .bool (decide ((0 : Int) < (v9.length : Int)))) tt_ok rfl rfl ?_
  refine wl_nil ?_
  refine wx_then ?_
  refine wc_cond rfl (fun hc => ?_) (fun hc => ?_)
  · replace h := ct hc h
    refine wc_seq ?_
    refine wc_region ?_
    refine wl_pure tt_ok rfl rfl ?_
    replace h := bsome h; obtain ⟨v14, x14, h⟩ := h
    refine wl_val (v := .pointer (some ((adOf v9a0).add ((0 : Int).toNat * 1 + 0)))) (val_ix (enc := (e1 .u8)) tt_ok rfl rfl rfl rfl v9N0 (Rds.of_vec v9V0) (e1_len _) rfl x14) rfl ?_
    refine wl_val (v := .int .u8 v14) (val_le (enc := (e1 .u8)) (xs := v9) tt_ok rfl (Rds.of_vec v9V0) ⟨_, Sel.ha⟩ (e1_len _) x14 rfl) rfl ?_
    refine wl_pure tt_ok rfl rfl ?_
    refine wl_pure tt_ok rfl rfl ?_
    refine wl_nil ?_
    refine wx_then ?_
    refine wc_ret ?_
    refine wx_then_ret ?_
    simp only [Option.some.injEq, Prod.mk.injEq] at h
    obtain ⟨rfl, rfl⟩ := h
    exact wx_pf tt_ok (.inl rfl) Try.results18 (Res.tmp rfl (Res.tmp rfl Res.nil)) rfl
  · replace h := cf hc h
    refine wc_skip ?_
    refine wx_then ?_
    refine wc_seq ?_
    refine wc_region ?_
    refine wl_pure tt_ok rfl rfl ?_
    refine wl_pure tt_ok rfl rfl ?_
    refine wl_nil ?_
    refine wx_then ?_
    refine wc_ret ?_
    simp only [Option.some.injEq, Prod.mk.injEq] at h
    obtain ⟨rfl, rfl⟩ := h
    exact wx_pf tt_ok (.inl rfl) Try.results18 (Res.tmp rfl (Res.tmp rfl Res.nil)) rfl

theorem k_hindcastlaw24_no_nil0 {F : Nat} {p1 : Int} {r0 : Bool} (h : m_hindcastlaw24_no_nil0 F p1 = some r0) :
    Pf Try.prog 13 [.pointer none, .int .u64 p1] (fun w => True) (.bool r0) := by
  unfold m_hindcastlaw24_no_nil0 at h
  refine pf_of_wc Try.func13 rfl Try.ntmps13 rfl rfl (fun w0 hR => ?_)
  refine wc_seq ?_
  refine wc_region ?_
  refine wl_pure tt_ok rfl rfl ?_
  refine wl_nil ?_
  refine wx_then ?_
  refine wc_seq ?_
  refine wc_region ?_
  refine wl_pure tt_ok rfl rfl ?_
  refine wl_pure tt_ok rfl rfl ?_
  replace h := bsome h; obtain ⟨⟨v10_0, v10_1⟩, x10, h⟩ := h; try dsimp only at h
  refine wl_cq Try.call18 rfl rfl rfl (q_pf (k_queue_Queue_At_nil0 x10) (fun _ _ => trivial)) rfl ?_
  refine wl_pure tt_ok rfl rfl ?_
  refine wl_pure tt_ok rfl rfl ?_
  refine wl_pure tt_ok rfl rfl ?_
  refine wl_pure tt_ok rfl rfl ?_
  refine wl_pure tt_ok rfl rfl ?_
  refine wl_nil ?_
  refine wx_then ?_
  refine wc_seq ?_
  refine wc_region ?_
  refine wl_pure tt_ok rfl rfl ?_
  refine wl_pure (v := .bool (!v10_1)) tt_ok rfl rfl ?_
  refine wl_pure tt_ok rfl rfl ?_
  replace h := bsome h; obtain ⟨v18, h, hg18⟩ := h
  refine wl_split (t := 15) rfl (fun hc => ?_) (fun hc => ?_)
  · replace h := ct hc h
    refine wl_run rfl ?_
    refine wl_pure tt_ok rfl rfl ?_
    refine wl_run rfl ?_
    refine wl_pure (v := .bool (v10_0 == (0 : Int))) tt_ok rfl rfl ?_
    simp only [Option.some.injEq, Prod.mk.injEq] at h
    obtain rfl := h
    have h := hg18; clear hg18
    refine wl_pure (v := .bool (v10_0 == (0 : Int))) tt_ok rfl rfl ?_
    refine wl_pure tt_ok rfl rfl ?_
    refine wl_nil ?_
    refine wx_then ?_
    refine wc_ret ?_
    simp only [Option.some.injEq] at h
    obtain rfl := h
    exact wx_pf tt_ok (.inl rfl) Try.results13 (Res.tmp rfl Res.nil) rfl
  · replace h := cf hc h
    refine wl_skip rfl rfl ?_
    refine wl_skip rfl rfl ?_
    simp only [Option.some.injEq, Prod.mk.injEq] at h
    obtain rfl := h
    have h := hg18; clear hg18
    refine wl_pure (v := .bool false) tt_ok rfl rfl ?_
    refine wl_pure tt_ok rfl rfl ?_
    refine wl_nil ?_
    refine wx_then ?_
    refine wc_ret ?_
    simp only [Option.some.injEq] at h
    obtain rfl := h
    exact wx_pf tt_ok (.inl rfl) Try.results13 (Res.tmp rfl Res.nil) rfl

theorem k_queue_Queue_Guess_nil0 {F : Nat} {p1 : Int} {r0 : Int} (h : m_queue_Queue_Guess_nil0 F p1 = some r0) :
    Pf Try.prog 12 [.pointer none, .int .u64 p1] (fun w => True) (.int .u8 r0) := by
  unfold m_queue_Queue_Guess_nil0 at h
  refine pf_of_wc Try.func12 rfl Try.ntmps12 rfl rfl (fun w0 hR => ?_)
  refine wc_seq ?_
  refine wc_region ?_
  refine wl_pure tt_ok rfl rfl ?_
  refine wl_nil ?_
  refine wx_then ?_
  refine wc_seq ?_
  refine wc_seq ?_
  refine wc_region ?_
  refine wl_pure tt_ok rfl rfl ?_
  refine wl_pure tt_ok rfl rfl ?_
  replace h := bsome h; obtain ⟨⟨v10_0, v10_1⟩, x10, h⟩ := h; try dsimp only at h
  refine wl_cq Try.call18 rfl rfl rfl (q_pf (k_queue_Queue_At_nil0 x10) (fun _ _ => trivial)) rfl ?_
  refine wl_pure tt_ok rfl rfl ?_
  refine wl_pure tt_ok rfl rfl ?_
  refine wl_pure tt_ok rfl rfl ?_
  refine wl_pure tt_ok rfl rfl ?_
  refine wl_pure tt_ok rfl rfl ?_
  refine wl_nil ?_
  refine wx_then ?_
  refine wc_seq ?_
  refine wc_region ?_
  refine wl_pure tt_ok rfl rfl ?_
  refine wl_pure tt_ok rfl rfl ?_
  replace h := bsome h; obtain ⟨v17, h, hg17⟩ := h
  refine wl_split (t := 14) rfl (fun hc => ?_) (fun hc => ?_)
  · replace h := ct hc h
    refine wl_skip rfl rfl ?_
    refine wl_skip rfl rfl ?_
    simp only [Option.some.injEq, Prod.mk.injEq] at h
    obtain rfl := h
    have h := hg17; clear hg17
    refine wl_pure (v := .bool true) tt_ok rfl rfl ?_
    refine wl_nil ?_
    refine wx_then ?_
    replace h := ct rfl h
    refine wc_cond_true rfl ?_
    refine wc_seq ?_
    refine wc_region ?_
    refine wl_pure tt_ok rfl rfl ?_
    refine wl_pure tt_ok rfl rfl ?_
    refine wl_nil ?_
    refine wx_then ?_
    refine wc_ret ?_
    refine wx_then_ret ?_
    simp only [Option.some.injEq] at h
    obtain rfl := h
    exact wx_pf tt_ok (.inl rfl) Try.results12 (Res.tmp rfl Res.nil) rfl
  · replace h := cf hc h
    refine wl_run rfl ?_
    refine wl_pure tt_ok rfl rfl ?_
    refine wl_run rfl ?_
    refine wl_pure (v := .bool true) tt_ok rfl rfl ?_
    simp only [Option.some.injEq, Prod.mk.injEq] at h
    obtain rfl := h
    have h := hg17; clear hg17
    refine wl_pure (v := .bool true) tt_ok rfl rfl ?_
    refine wl_nil ?_
    refine wx_then ?_
    replace h := ct rfl h
    refine wc_cond_true rfl ?_
    refine wc_seq ?_
    refine wc_region ?_
    refine wl_pure tt_ok rfl rfl ?_
    refine wl_pure tt_ok rfl rfl ?_
    refine wl_nil ?_
    refine wx_then ?_
    refine wc_ret ?_
    refine wx_then_ret ?_
    simp only [Option.some.injEq] at h
    obtain rfl := h
    exact wx_pf tt_ok (.inl rfl) Try.results12 (Res.tmp rfl Res.nil) rfl

theorem k_queue_Queue_Slice_nil0 {F : Nat} {p1 : Int} {p2 : Int} {r0 : (List Int)} (h : m_queue_Queue_Slice_nil0 F p1 p2 = some r0) :
    SpD Try.prog 24 [.pointer none, .int .u64 p1, .int .i64 p2] [] (fun w => True) (fun v D => ∃ (r0a0 : Option Addr) (r0n0 r0c0 : Nat) (r0B0 : List Blk), r0n0 = r0.length ∧ Own 31 1 r0a0 r0n0 r0c0 (flat (e1 .u8) r0) r0B0 ∧ v = .slice r0a0 r0n0 r0c0 ∧ D = fun F => (r0B0 ++ F)) := by
  unfold m_queue_Queue_Slice_nil0 at h
  refine sp_of_wc Try.func24 rfl Try.ntmps24 rfl rfl (fun w0 hR => ?_)
  refine wc_seq ?_
  refine wc_region ?_
  refine wl_pure tt_ok rfl rfl ?_
  refine wl_nil ?_
  refine wx_then ?_
  refine wc_seq ?_
  refine wc_region ?_
  refine wl_pure tt_ok rfl rfl ?_
  refine wl_pure tt_ok rfl rfl ?_
  replace h := bsome h; obtain ⟨v10, x10, h⟩ := h
  refine wl_cs Try.call28 rfl rfl rfl (s_sp (k_queue_Queue_from_nil0 x10) pNil (fun _ _ => trivial)) rfl ?_
  rintro _ _ ⟨_, ⟨v10a0, v10n0, v10c0, v10B0, v10N0, v10V0, rfl, rfl⟩, rfl⟩
  refine wl_pure tt_ok rfl rfl ?_
  refine wl_nil ?_
  refine wx_then ?_
  refine wc_seq ?_
  refine wc_region ?_
  refine wl_pure tt_ok rfl rfl ?_
  refine wl_pure tt_ok rfl rfl ?_
  refine wl_pure tt_ok rfl rfl ?_
  refine wl_val (v := .int .i64 (v10.length : Int)) (val_len tt_ok rfl rfl v10N0) rfl ?_
  refine wl_pure (v := .int .i64 (min p2 (v10.length : Int))) tt_ok rfl rfl ?_
  refine wl_pure (v := .int .i64 (max (0 : Int) (min p2 (v10.length : Int)))) tt_ok rfl rfl ?_
  replace h := bsome h; obtain ⟨v17, x17, h⟩ := h
  refine wl_cut (enc := (e1 .u8)) tt_ok rfl rfl rfl v10N0 (vec_some v10V0) (e1_len _) (vec_cap v10V0) (.inl ⟨rfl, rfl⟩) (.inr ⟨_, _, rfl, rfl⟩) (.inl ⟨rfl, rfl⟩) (by intro h; first | rfl | cases h) (cut2 x17 v10N0 (vec_cap v10V0)) x17 rfl ?_
  intro a17 n17_ c17 N17 H17 I17 O17 Z17
  replace h := bsome h; obtain ⟨v18, x18, h⟩ := h
  refine wl_chg (chg_app (enc := (e1 .u8)) (ys := v17) tt_ok rfl rfl rfl rfl rfl rfl rfl N17 Own.zero pNil (Rds.of_vec (O17 _ rfl v10V0)) ⟨_, Sel.ha⟩ (e1_len _) (fun _ => rfl) rfl x18) rfl ?_
  rintro _ _ ⟨a18, n18_, c18, B18, rfl, N18, V18, rfl⟩
  refine wl_pure tt_ok rfl rfl ?_
  refine wl_nil ?_
  refine wx_then ?_
  refine wc_ret ?_
  simp only [Option.some.injEq] at h
  obtain rfl := h
  exact wx_spD tt_ok (.inl rfl) Try.results24 (Res.tmp rfl Res.nil) ⟨a18, n18_, c18, B18, N18, V18, rfl, rfl⟩ (fun F => by simp) (pSub (pApp Sel.ha pNil))

end Go.Proofs.Ytfjmhnfaoifehaa
