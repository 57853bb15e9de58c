/-
  Each function computes what its model says. Printed by a program of this claim's own.
-/
import Derived.Test.YtkekgagekgadmaaDoorTab
import Derived.Test.YtkekgagekgadmaaDoorMod
import Derived.Test.YtkekgagekgadmaaDoorWalk1
namespace Go.Proofs.YtkekgagekgadmaaDoor
open Go.Proofs.YtkekgagekgadmaaDoor.Eng
set_option linter.unusedVariables false
set_option linter.unusedSimpArgs false
set_option maxHeartbeats 4000000
set_option maxRecDepth 20000

theorem k_rollback_Engine_pair {F : Nat} {p0 : T_rollback_Engine} {p0b p0t : Nat} {p0a0 : Option Addr} {p0n0 : Nat} {p0c0 : Nat} {p0B0 : List Blk} {p0a1 : Option Addr} {p0n1 : Nat} {p0c1 : Nat} {p0B1 : List Blk} {p0_4 : T_queue_Queue} {p0_4b p0_4t : Nat} {p0_4a0 : Option Addr} {p0_4n0 : Nat} {p0_4c0 : Nat} {p0_4B0 : List Blk} {p0_5 : T_ring_Ring} {p0_5b p0_5t : Nat} {p0_5g0 : List (T_ring_place × G)} {p0_5P0 : List Blk} {p1 : Int} {r0 : (Int × Int)} (p0N0 : p0n0 = p0.sure.Shots.length) (p0V0 : Own 80 6 p0a0 p0n0 p0c0 (flat c_T_api_Shot p0.sure.Shots) p0B0) (p0N1 : p0n1 = p0.own.length) (p0V1 : Own 40 1 p0a1 p0n1 p0c1 (flat (e1 .u8) p0.own) p0B1) (p0_4N0 : p0_4n0 = p0_4.l.length) (p0_4V0 : Own 40 1 p0_4a0 p0_4n0 p0_4c0 (flat (e1 .u8) p0_4.l) p0_4B0) (p0_5G0 : p0_5.places.1 = unG p0_5g0) (p0_5A0 : AllP sh_T_ring_place c_T_api_Shot p0_5P0 p0_5g0) (h : m_rollback_Engine_pair F p0 p0_4 p0_5 p1 = some r0) :
    Rd2 Tryd.prog 42 [.pointer (some ⟨p0b, 0, none⟩), .int .u64 p1] (⟨p0b, [.int .u8 p0.player, .int .i64 p0.window, .int .u64 p0.sure.Frame, .int .u64 p0.sure.Seed, .int .i32 p0.sure.Players.1.X, .int .i32 p0.sure.Players.1.Y, .int .i32 p0.sure.Players.1.VX, .int .i32 p0.sure.Players.1.VY, .int .u8 p0.sure.Players.1.Health, .int .u8 p0.sure.Players.1.Cool, .int .u8 p0.sure.Players.1.Face, .int .i32 p0.sure.Players.2.X, .int .i32 p0.sure.Players.2.Y, .int .i32 p0.sure.Players.2.VX, .int .i32 p0.sure.Players.2.VY, .int .u8 p0.sure.Players.2.Health, .int .u8 p0.sure.Players.2.Cool, .int .u8 p0.sure.Players.2.Face, .slice p0a0 p0n0 p0c0, .int .u16 p0.sure.Score.1, .int .u16 p0.sure.Score.2, .slice p0a1 p0n1 p0c1, .pointer (some ⟨p0_4b, 0, none⟩), .pointer (some ⟨p0_5b, 0, none⟩)], p0t, (0, 0)⟩ :: (p0B0 ++ (p0B1 ++ (⟨p0_4b, [.int .u64 p0_4.first_, .slice p0_4a0 p0_4n0 p0_4c0, .int .u8 p0_4.last], p0_4t, (0, 0)⟩ :: (p0_4B0 ++ (⟨p0_5b, ([.int .i64 p0_5.size] ++ flat cg_T_ring_place p0_5g0), p0_5t, (0, 0)⟩ :: (p0_5P0 ++ []))))))) (fun w => True) (.agg #[.int .u8 r0.1, .int .u8 r0.2]) := by
  unfold m_rollback_Engine_pair at h
  refine sp_of_wc Tryd.func42 rfl Tryd.ntmps42 rfl rfl (fun w0 hR => ?_)
  refine wc_seq (wc_region ?_)
  refine wl_alloc tt_ok rfl rfl (fun b4 => ?_)
  refine wl_nil (wx_then (wc_seq ?_))
  refine wc_k2 (Ls := (⟨b4, [.int .u8 (0 : Int), .int .u8 (0 : Int)], 45, (0, 0)⟩ :: (⟨p0b, [.int .u8 p0.player, .int .i64 p0.window, .int .u64 p0.sure.Frame, .int .u64 p0.sure.Seed, .int .i32 p0.sure.Players.1.X, .int .i32 p0.sure.Players.1.Y, .int .i32 p0.sure.Players.1.VX, .int .i32 p0.sure.Players.1.VY, .int .u8 p0.sure.Players.1.Health, .int .u8 p0.sure.Players.1.Cool, .int .u8 p0.sure.Players.1.Face, .int .i32 p0.sure.Players.2.X, .int .i32 p0.sure.Players.2.Y, .int .i32 p0.sure.Players.2.VX, .int .i32 p0.sure.Players.2.VY, .int .u8 p0.sure.Players.2.Health, .int .u8 p0.sure.Players.2.Cool, .int .u8 p0.sure.Players.2.Face, .slice p0a0 p0n0 p0c0, .int .u16 p0.sure.Score.1, .int .u16 p0.sure.Score.2, .slice p0a1 p0n1 p0c1, .pointer (some ⟨p0_4b, 0, none⟩), .pointer (some ⟨p0_5b, 0, none⟩)], p0t, (0, 0)⟩ :: (p0B0 ++ (p0B1 ++ (⟨p0_4b, [.int .u64 p0_4.first_, .slice p0_4a0 p0_4n0 p0_4c0, .int .u8 p0_4.last], p0_4t, (0, 0)⟩ :: (p0_4B0 ++ (⟨p0_5b, ([.int .i64 p0_5.size] ++ flat cg_T_ring_place p0_5g0), p0_5t, (0, 0)⟩ :: (p0_5P0 ++ []))))))))) [18] [18] [0, 1, 3, 7, 0, 16, 48, 112, 0, 0, 512, 1536, 3584, 7680, 16128, 32752, 65520, 131071, 262143] [0, 1, 2, 3, 4, 5, 6, 7, 8, 9, 10, 11, 12, 13, 14, 15, 16, 17, 18] (by kernel_rfl) (by kernel_rfl) (by kernel_rfl) ?_
  refine k_val rfl rfl rfl (pSub (pCons Sel.hc (pCons Sel.hc (pApp Sel.ha (pApp Sel.ha (pCons Sel.hc (pApp Sel.ha (pCons Sel.hc (pApp Sel.ha pNil))))))))) (stepV_ok tt_ok rfl) rfl ?_
  refine k_val rfl rfl rfl (pSub (pCons Sel.hc (pCons Sel.hc (pApp Sel.ha (pApp Sel.ha (pCons Sel.hc (pApp Sel.ha (pCons Sel.hc (pApp Sel.ha pNil))))))))) (stepV_ok tt_ok rfl) rfl ?_
  refine k_val (v := .pointer (some ⟨p0b, 0, none⟩)) rfl rfl rfl (pSub (pCons Sel.hc (pCons Sel.hc (pApp Sel.ha (pApp Sel.ha (pCons Sel.hc (pApp Sel.ha (pCons Sel.hc (pApp Sel.ha pNil))))))))) (stepV_ok tt_ok rfl) rfl ?_
  refine k_val (v := .int .u8 p0.player) rfl rfl rfl (pSub (pCons Sel.hc (pCons Sel.hc (pApp Sel.ha (pApp Sel.ha (pCons Sel.hc (pApp Sel.ha (pCons Sel.hc (pApp Sel.ha pNil))))))))) (val_load tt_ok rfl (List.Mem.tail _ (List.Mem.head _)) rfl) rfl ?_
  refine k_val rfl rfl rfl (pSub (pCons Sel.hc (pCons Sel.hc (pApp Sel.ha (pApp Sel.ha (pCons Sel.hc (pApp Sel.ha (pCons Sel.hc (pApp Sel.ha pNil))))))))) (stepV_ok tt_ok rfl) rfl ?_
  refine k_val rfl rfl rfl (pSub (pCons Sel.hc (pCons Sel.hc (pApp Sel.ha (pApp Sel.ha (pCons Sel.hc (pApp Sel.ha (pCons Sel.hc (pApp Sel.ha pNil))))))))) (stepV_ok tt_ok rfl) rfl ?_
  refine k_val (v := .pointer (some ⟨p0b, 21, none⟩)) rfl rfl rfl (pSub (pCons Sel.hc (pCons Sel.hc (pApp Sel.ha (pApp Sel.ha (pCons Sel.hc (pApp Sel.ha (pCons Sel.hc (pApp Sel.ha pNil))))))))) (stepV_ok tt_ok rfl) rfl ?_
  refine k_val (v := .slice p0a1 p0n1 p0c1) rfl rfl rfl (pSub (pCons Sel.hc (pCons Sel.hc (pApp Sel.ha (pApp Sel.ha (pCons Sel.hc (pApp Sel.ha (pCons Sel.hc (pApp Sel.ha pNil))))))))) (val_load tt_ok rfl (List.Mem.tail _ (List.Mem.head _)) rfl) rfl ?_
  refine k_val rfl rfl rfl (pSub (pCons Sel.hc (pCons Sel.hc (pApp Sel.ha (pApp Sel.ha (pCons Sel.hc (pApp Sel.ha (pCons Sel.hc (pApp Sel.ha pNil))))))))) (stepV_ok tt_ok rfl) rfl ?_
  refine k_val rfl rfl rfl (pSub (pCons Sel.hc (pCons Sel.hc (pApp Sel.ha (pApp Sel.ha (pCons Sel.hc (pApp Sel.ha (pCons Sel.hc (pApp Sel.ha pNil))))))))) (stepV_ok tt_ok rfl) rfl ?_
  refine k_val rfl rfl rfl (pSub (pCons Sel.hc (pCons Sel.hc (pApp Sel.ha (pApp Sel.ha (pCons Sel.hc (pApp Sel.ha (pCons Sel.hc (pApp Sel.ha pNil))))))))) (stepV_ok tt_ok rfl) rfl ?_
  refine k_val (v := .pointer (some ⟨p0b, 2, none⟩)) rfl rfl rfl (pSub (pCons Sel.hc (pCons Sel.hc (pApp Sel.ha (pApp Sel.ha (pCons Sel.hc (pApp Sel.ha (pCons Sel.hc (pApp Sel.ha pNil))))))))) (stepV_ok tt_ok rfl) rfl ?_
  refine k_val (v := .pointer (some ⟨p0b, 2, none⟩)) rfl rfl rfl (pSub (pCons Sel.hc (pCons Sel.hc (pApp Sel.ha (pApp Sel.ha (pCons Sel.hc (pApp Sel.ha (pCons Sel.hc (pApp Sel.ha pNil))))))))) (stepV_ok tt_ok rfl) rfl ?_
  refine k_val (v := .int .u64 p0.sure.Frame) rfl rfl rfl (pSub (pCons Sel.hc (pCons Sel.hc (pApp Sel.ha (pApp Sel.ha (pCons Sel.hc (pApp Sel.ha (pCons Sel.hc (pApp Sel.ha pNil))))))))) (val_load tt_ok rfl (List.Mem.tail _ (List.Mem.head _)) rfl) rfl ?_
  refine k_val (v := .int .u64 (IntKind.wrap .u64 (p1 - p0.sure.Frame))) rfl rfl rfl (pSub (pCons Sel.hc (pCons Sel.hc (pApp Sel.ha (pApp Sel.ha (pCons Sel.hc (pApp Sel.ha (pCons Sel.hc (pApp Sel.ha pNil))))))))) (stepV_ok tt_ok rfl) rfl ?_
  replace h := bsome h; obtain ⟨v20, x20, h⟩ := h
  refine k_val (v := .pointer (some ((adOf p0a1).add ((IntKind.wrap .u64 (p1 - p0.sure.Frame)).toNat * 1 + 0)))) rfl rfl rfl (pSub (pCons Sel.hc (pCons Sel.hc (pApp Sel.ha (pApp Sel.ha (pCons Sel.hc (pApp Sel.ha (pCons Sel.hc (pApp Sel.ha pNil))))))))) (val_ix (enc := (e1 .u8)) tt_ok rfl rfl rfl rfl p0N1 (Rds.of_vec p0V1) (e1_len _) rfl x20) rfl ?_
  refine k_val (v := .int .u8 v20) rfl rfl rfl (pSub (pCons Sel.hc (pCons Sel.hc (pApp Sel.ha (pApp Sel.ha (pCons Sel.hc (pApp Sel.ha (pCons Sel.hc (pApp Sel.ha pNil))))))))) (val_le (enc := (e1 .u8)) (xs := p0.own) tt_ok rfl (Rds.of_vec p0V1) ⟨_, (Sel.sc (Sel.sc (Sel.sa Sel.ha)))⟩ (e1_len _) x20 rfl) rfl ?_
  rcases Bool.eq_false_or_eq_true (p0.player == (0 : Int)) with hx220 | hx220
  · replace h := ct hx220 h
    refine k_val (v := .pointer (some ⟨b4, 0, none⟩)) rfl rfl rfl (pSub (pCons Sel.hc (pCons Sel.hc (pApp Sel.ha (pApp Sel.ha (pCons Sel.hc (pApp Sel.ha (pCons Sel.hc (pApp Sel.ha pNil))))))))) (val_ia (j := 0) tt_ok rfl rfl rfl rfl (by simpa using hx220) rfl rfl) rfl ?_
    refine k_chg0 rfl rfl rfl (chg_store tt_ok rfl Upd.here rfl rfl rfl rfl rfl rfl) (.inl rfl) ?_
    rintro _ _ rfl
    refine k_end (by kernel_rfl) ?_
    refine wx_then (wc_seq ?_)
    refine wc_k2 (Ls := (⟨b4, [.int .u8 v20, .int .u8 (0 : Int)], 45, (0, 0)⟩ :: (⟨p0b, [.int .u8 p0.player, .int .i64 p0.window, .int .u64 p0.sure.Frame, .int .u64 p0.sure.Seed, .int .i32 p0.sure.Players.1.X, .int .i32 p0.sure.Players.1.Y, .int .i32 p0.sure.Players.1.VX, .int .i32 p0.sure.Players.1.VY, .int .u8 p0.sure.Players.1.Health, .int .u8 p0.sure.Players.1.Cool, .int .u8 p0.sure.Players.1.Face, .int .i32 p0.sure.Players.2.X, .int .i32 p0.sure.Players.2.Y, .int .i32 p0.sure.Players.2.VX, .int .i32 p0.sure.Players.2.VY, .int .u8 p0.sure.Players.2.Health, .int .u8 p0.sure.Players.2.Cool, .int .u8 p0.sure.Players.2.Face, .slice p0a0 p0n0 p0c0, .int .u16 p0.sure.Score.1, .int .u16 p0.sure.Score.2, .slice p0a1 p0n1 p0c1, .pointer (some ⟨p0_4b, 0, none⟩), .pointer (some ⟨p0_5b, 0, none⟩)], p0t, (0, 0)⟩ :: (p0B0 ++ (p0B1 ++ (⟨p0_4b, [.int .u64 p0_4.first_, .slice p0_4a0 p0_4n0 p0_4c0, .int .u8 p0_4.last], p0_4t, (0, 0)⟩ :: (p0_4B0 ++ (⟨p0_5b, ([.int .i64 p0_5.size] ++ flat cg_T_ring_place p0_5g0), p0_5t, (0, 0)⟩ :: (p0_5P0 ++ []))))))))) [10, 11, 12] [11, 12] [0, 1, 3, 7, 15, 0, 32, 96, 224, 0, 992, 2047, 4095] [0, 1, 2, 3, 4, 5, 6, 7, 8, 9, 10, 11, 12] (by kernel_rfl) (by kernel_rfl) (by kernel_rfl) ?_
    refine k_val rfl rfl rfl (pSub (pCons Sel.hc (pCons Sel.hc (pApp Sel.ha (pApp Sel.ha (pCons Sel.hc (pApp Sel.ha (pCons Sel.hc (pApp Sel.ha pNil))))))))) (stepV_ok tt_ok rfl) rfl ?_
    refine k_val rfl rfl rfl (pSub (pCons Sel.hc (pCons Sel.hc (pApp Sel.ha (pApp Sel.ha (pCons Sel.hc (pApp Sel.ha (pCons Sel.hc (pApp Sel.ha pNil))))))))) (stepV_ok tt_ok rfl) rfl ?_
    refine k_val (v := .pointer (some ⟨p0b, 0, none⟩)) rfl rfl rfl (pSub (pCons Sel.hc (pCons Sel.hc (pApp Sel.ha (pApp Sel.ha (pCons Sel.hc (pApp Sel.ha (pCons Sel.hc (pApp Sel.ha pNil))))))))) (stepV_ok tt_ok rfl) rfl ?_
    refine k_val (v := .int .u8 p0.player) rfl rfl rfl (pSub (pCons Sel.hc (pCons Sel.hc (pApp Sel.ha (pApp Sel.ha (pCons Sel.hc (pApp Sel.ha (pCons Sel.hc (pApp Sel.ha pNil))))))))) (val_load tt_ok rfl (List.Mem.tail _ (List.Mem.head _)) rfl) rfl ?_
    refine k_val (v := .int .u8 (IntKind.wrap .u8 ((1 : Int) - p0.player))) rfl rfl rfl (pSub (pCons Sel.hc (pCons Sel.hc (pApp Sel.ha (pApp Sel.ha (pCons Sel.hc (pApp Sel.ha (pCons Sel.hc (pApp Sel.ha pNil))))))))) (stepV_ok tt_ok rfl) rfl ?_
    refine k_val rfl rfl rfl (pSub (pCons Sel.hc (pCons Sel.hc (pApp Sel.ha (pApp Sel.ha (pCons Sel.hc (pApp Sel.ha (pCons Sel.hc (pApp Sel.ha pNil))))))))) (stepV_ok tt_ok rfl) rfl ?_
    refine k_val rfl rfl rfl (pSub (pCons Sel.hc (pCons Sel.hc (pApp Sel.ha (pApp Sel.ha (pCons Sel.hc (pApp Sel.ha (pCons Sel.hc (pApp Sel.ha pNil))))))))) (stepV_ok tt_ok rfl) rfl ?_
    refine k_val (v := .pointer (some ⟨p0b, 22, none⟩)) rfl rfl rfl (pSub (pCons Sel.hc (pCons Sel.hc (pApp Sel.ha (pApp Sel.ha (pCons Sel.hc (pApp Sel.ha (pCons Sel.hc (pApp Sel.ha pNil))))))))) (stepV_ok tt_ok rfl) rfl ?_
    refine k_val (v := .pointer (some ⟨p0_4b, 0, none⟩)) rfl rfl rfl (pSub (pCons Sel.hc (pCons Sel.hc (pApp Sel.ha (pApp Sel.ha (pCons Sel.hc (pApp Sel.ha (pCons Sel.hc (pApp Sel.ha pNil))))))))) (val_load tt_ok rfl (List.Mem.tail _ (List.Mem.head _)) rfl) rfl ?_
    refine k_val rfl rfl rfl (pSub (pCons Sel.hc (pCons Sel.hc (pApp Sel.ha (pApp Sel.ha (pCons Sel.hc (pApp Sel.ha (pCons Sel.hc (pApp Sel.ha pNil))))))))) (stepV_ok tt_ok rfl) rfl ?_
    replace h := bsome h; obtain ⟨v33, x33, h⟩ := h
    refine k_cq rfl rfl rfl Tryd.call35 rfl rfl rfl (q_rd (k_queue_Queue_Guess (p0 := p0_4) p0_4N0 p0_4V0 x33) (pCons (Sel.sc (Sel.sc (Sel.sa (Sel.sa Sel.hc)))) (pApp (Sel.sc (Sel.sc (Sel.sa (Sel.sa Sel.ha)))) pNil)) (fun _ _ => trivial)) rfl (pSub (pCons Sel.hc (pCons Sel.hc (pApp Sel.ha (pApp Sel.ha (pCons Sel.hc (pApp Sel.ha (pCons Sel.hc (pApp Sel.ha pNil))))))))) ?_
    rcases Bool.eq_false_or_eq_true ((IntKind.wrap .u8 ((1 : Int) - p0.player)) == (0 : Int)) with hx340 | hx340
    · replace h := ct hx340 h
      refine k_chg rfl rfl rfl (Chg.of_val (v := .pointer (some ⟨b4, 0, none⟩)) (val_ia (j := 0) tt_ok rfl rfl rfl rfl (by simpa using hx340) rfl rfl)) rfl (.inl rfl) ?_
      rintro _ _ ⟨rfl, rfl⟩
      refine k_chg0 rfl rfl rfl (chg_store tt_ok rfl Upd.here rfl rfl rfl rfl rfl rfl) (.inl rfl) ?_
      rintro _ _ rfl
      refine k_end (by kernel_rfl) ?_
      refine wx_then (wc_seq (wc_region ?_))
      refine wl_val (v := .agg #[.int .u8 v33, .int .u8 (0 : Int)]) (val_load tt_ok rfl (List.Mem.head _) rfl) rfl ?_
      apply wl_store tt_ok; rfl; exact Upd.here; rfl; rfl; rfl; rfl; rfl; rfl
      refine wl_nil (wx_then (wc_ret ?_))
      simp only [Option.some.injEq] at h
      obtain rfl := h
      exact wx_rd tt_ok (.inl rfl) Tryd.results42 (Res.cell rfl (List.Mem.head _) rfl Res.nil) (pSub (pCons (Sel.sc Sel.hc) (pApp (Sel.sc Sel.ha) (pApp (Sel.sc Sel.ha) (pCons (Sel.sc Sel.hc) (pApp (Sel.sc Sel.ha) (pCons (Sel.sc Sel.hc) (pApp (Sel.sc Sel.ha) pNil)))))))) rfl
    replace h := cf hx340 h
    rcases Bool.eq_false_or_eq_true ((IntKind.wrap .u8 ((1 : Int) - p0.player)) == (1 : Int)) with hx341 | hx341
    · replace h := ct hx341 h
      refine k_chg rfl rfl rfl (Chg.of_val (v := .pointer (some ⟨b4, 1, none⟩)) (val_ia (j := 1) tt_ok rfl rfl rfl rfl (by simpa using hx341) rfl rfl)) rfl (.inl rfl) ?_
      rintro _ _ ⟨rfl, rfl⟩
      refine k_chg0 rfl rfl rfl (chg_store tt_ok rfl Upd.here rfl rfl rfl rfl rfl rfl) (.inl rfl) ?_
      rintro _ _ rfl
      refine k_end (by kernel_rfl) ?_
      refine wx_then (wc_seq (wc_region ?_))
      refine wl_val (v := .agg #[.int .u8 v20, .int .u8 v33]) (val_load tt_ok rfl (List.Mem.head _) rfl) rfl ?_
      apply wl_store tt_ok; rfl; exact Upd.here; rfl; rfl; rfl; rfl; rfl; rfl
      refine wl_nil (wx_then (wc_ret ?_))
      simp only [Option.some.injEq] at h
      obtain rfl := h
      exact wx_rd tt_ok (.inl rfl) Tryd.results42 (Res.cell rfl (List.Mem.head _) rfl Res.nil) (pSub (pCons (Sel.sc Sel.hc) (pApp (Sel.sc Sel.ha) (pApp (Sel.sc Sel.ha) (pCons (Sel.sc Sel.hc) (pApp (Sel.sc Sel.ha) (pCons (Sel.sc Sel.hc) (pApp (Sel.sc Sel.ha) pNil)))))))) rfl
    replace h := cf hx341 h
    cases h
  replace h := cf hx220 h
  rcases Bool.eq_false_or_eq_true (p0.player == (1 : Int)) with hx221 | hx221
  · replace h := ct hx221 h
    refine k_val (v := .pointer (some ⟨b4, 1, none⟩)) rfl rfl rfl (pSub (pCons Sel.hc (pCons Sel.hc (pApp Sel.ha (pApp Sel.ha (pCons Sel.hc (pApp Sel.ha (pCons Sel.hc (pApp Sel.ha pNil))))))))) (val_ia (j := 1) tt_ok rfl rfl rfl rfl (by simpa using hx221) rfl rfl) rfl ?_
    refine k_chg0 rfl rfl rfl (chg_store tt_ok rfl Upd.here rfl rfl rfl rfl rfl rfl) (.inl rfl) ?_
    rintro _ _ rfl
    refine k_end (by kernel_rfl) ?_
    refine wx_then (wc_seq ?_)
    refine wc_k2 (Ls := (⟨b4, [.int .u8 (0 : Int), .int .u8 v20], 45, (0, 0)⟩ :: (⟨p0b, [.int .u8 p0.player, .int .i64 p0.window, .int .u64 p0.sure.Frame, .int .u64 p0.sure.Seed, .int .i32 p0.sure.Players.1.X, .int .i32 p0.sure.Players.1.Y, .int .i32 p0.sure.Players.1.VX, .int .i32 p0.sure.Players.1.VY, .int .u8 p0.sure.Players.1.Health, .int .u8 p0.sure.Players.1.Cool, .int .u8 p0.sure.Players.1.Face, .int .i32 p0.sure.Players.2.X, .int .i32 p0.sure.Players.2.Y, .int .i32 p0.sure.Players.2.VX, .int .i32 p0.sure.Players.2.VY, .int .u8 p0.sure.Players.2.Health, .int .u8 p0.sure.Players.2.Cool, .int .u8 p0.sure.Players.2.Face, .slice p0a0 p0n0 p0c0, .int .u16 p0.sure.Score.1, .int .u16 p0.sure.Score.2, .slice p0a1 p0n1 p0c1, .pointer (some ⟨p0_4b, 0, none⟩), .pointer (some ⟨p0_5b, 0, none⟩)], p0t, (0, 0)⟩ :: (p0B0 ++ (p0B1 ++ (⟨p0_4b, [.int .u64 p0_4.first_, .slice p0_4a0 p0_4n0 p0_4c0, .int .u8 p0_4.last], p0_4t, (0, 0)⟩ :: (p0_4B0 ++ (⟨p0_5b, ([.int .i64 p0_5.size] ++ flat cg_T_ring_place p0_5g0), p0_5t, (0, 0)⟩ :: (p0_5P0 ++ []))))))))) [10, 11, 12] [11, 12] [0, 1, 3, 7, 15, 0, 32, 96, 224, 0, 992, 2047, 4095] [0, 1, 2, 3, 4, 5, 6, 7, 8, 9, 10, 11, 12] (by kernel_rfl) (by kernel_rfl) (by kernel_rfl) ?_
    refine k_val rfl rfl rfl (pSub (pCons Sel.hc (pCons Sel.hc (pApp Sel.ha (pApp Sel.ha (pCons Sel.hc (pApp Sel.ha (pCons Sel.hc (pApp Sel.ha pNil))))))))) (stepV_ok tt_ok rfl) rfl ?_
    refine k_val rfl rfl rfl (pSub (pCons Sel.hc (pCons Sel.hc (pApp Sel.ha (pApp Sel.ha (pCons Sel.hc (pApp Sel.ha (pCons Sel.hc (pApp Sel.ha pNil))))))))) (stepV_ok tt_ok rfl) rfl ?_
    refine k_val (v := .pointer (some ⟨p0b, 0, none⟩)) rfl rfl rfl (pSub (pCons Sel.hc (pCons Sel.hc (pApp Sel.ha (pApp Sel.ha (pCons Sel.hc (pApp Sel.ha (pCons Sel.hc (pApp Sel.ha pNil))))))))) (stepV_ok tt_ok rfl) rfl ?_
    refine k_val (v := .int .u8 p0.player) rfl rfl rfl (pSub (pCons Sel.hc (pCons Sel.hc (pApp Sel.ha (pApp Sel.ha (pCons Sel.hc (pApp Sel.ha (pCons Sel.hc (pApp Sel.ha pNil))))))))) (val_load tt_ok rfl (List.Mem.tail _ (List.Mem.head _)) rfl) rfl ?_
    refine k_val (v := .int .u8 (IntKind.wrap .u8 ((1 : Int) - p0.player))) rfl rfl rfl (pSub (pCons Sel.hc (pCons Sel.hc (pApp Sel.ha (pApp Sel.ha (pCons Sel.hc (pApp Sel.ha (pCons Sel.hc (pApp Sel.ha pNil))))))))) (stepV_ok tt_ok rfl) rfl ?_
    refine k_val rfl rfl rfl (pSub (pCons Sel.hc (pCons Sel.hc (pApp Sel.ha (pApp Sel.ha (pCons Sel.hc (pApp Sel.ha (pCons Sel.hc (pApp Sel.ha pNil))))))))) (stepV_ok tt_ok rfl) rfl ?_
    refine k_val rfl rfl rfl (pSub (pCons Sel.hc (pCons Sel.hc (pApp Sel.ha (pApp Sel.ha (pCons Sel.hc (pApp Sel.ha (pCons Sel.hc (pApp Sel.ha pNil))))))))) (stepV_ok tt_ok rfl) rfl ?_
    refine k_val (v := .pointer (some ⟨p0b, 22, none⟩)) rfl rfl rfl (pSub (pCons Sel.hc (pCons Sel.hc (pApp Sel.ha (pApp Sel.ha (pCons Sel.hc (pApp Sel.ha (pCons Sel.hc (pApp Sel.ha pNil))))))))) (stepV_ok tt_ok rfl) rfl ?_
    refine k_val (v := .pointer (some ⟨p0_4b, 0, none⟩)) rfl rfl rfl (pSub (pCons Sel.hc (pCons Sel.hc (pApp Sel.ha (pApp Sel.ha (pCons Sel.hc (pApp Sel.ha (pCons Sel.hc (pApp Sel.ha pNil))))))))) (val_load tt_ok rfl (List.Mem.tail _ (List.Mem.head _)) rfl) rfl ?_
    refine k_val rfl rfl rfl (pSub (pCons Sel.hc (pCons Sel.hc (pApp Sel.ha (pApp Sel.ha (pCons Sel.hc (pApp Sel.ha (pCons Sel.hc (pApp Sel.ha pNil))))))))) (stepV_ok tt_ok rfl) rfl ?_
    replace h := bsome h; obtain ⟨v33, x33, h⟩ := h
    refine k_cq rfl rfl rfl Tryd.call35 rfl rfl rfl (q_rd (k_queue_Queue_Guess (p0 := p0_4) p0_4N0 p0_4V0 x33) (pCons (Sel.sc (Sel.sc (Sel.sa (Sel.sa Sel.hc)))) (pApp (Sel.sc (Sel.sc (Sel.sa (Sel.sa Sel.ha)))) pNil)) (fun _ _ => trivial)) rfl (pSub (pCons Sel.hc (pCons Sel.hc (pApp Sel.ha (pApp Sel.ha (pCons Sel.hc (pApp Sel.ha (pCons Sel.hc (pApp Sel.ha pNil))))))))) ?_
    rcases Bool.eq_false_or_eq_true ((IntKind.wrap .u8 ((1 : Int) - p0.player)) == (0 : Int)) with hx340 | hx340
    · replace h := ct hx340 h
      refine k_chg rfl rfl rfl (Chg.of_val (v := .pointer (some ⟨b4, 0, none⟩)) (val_ia (j := 0) tt_ok rfl rfl rfl rfl (by simpa using hx340) rfl rfl)) rfl (.inl rfl) ?_
      rintro _ _ ⟨rfl, rfl⟩
      refine k_chg0 rfl rfl rfl (chg_store tt_ok rfl Upd.here rfl rfl rfl rfl rfl rfl) (.inl rfl) ?_
      rintro _ _ rfl
      refine k_end (by kernel_rfl) ?_
      refine wx_then (wc_seq (wc_region ?_))
      refine wl_val (v := .agg #[.int .u8 v33, .int .u8 v20]) (val_load tt_ok rfl (List.Mem.head _) rfl) rfl ?_
      apply wl_store tt_ok; rfl; exact Upd.here; rfl; rfl; rfl; rfl; rfl; rfl
      refine wl_nil (wx_then (wc_ret ?_))
      simp only [Option.some.injEq] at h
      obtain rfl := h
      exact wx_rd tt_ok (.inl rfl) Tryd.results42 (Res.cell rfl (List.Mem.head _) rfl Res.nil) (pSub (pCons (Sel.sc Sel.hc) (pApp (Sel.sc Sel.ha) (pApp (Sel.sc Sel.ha) (pCons (Sel.sc Sel.hc) (pApp (Sel.sc Sel.ha) (pCons (Sel.sc Sel.hc) (pApp (Sel.sc Sel.ha) pNil)))))))) rfl
    replace h := cf hx340 h
    rcases Bool.eq_false_or_eq_true ((IntKind.wrap .u8 ((1 : Int) - p0.player)) == (1 : Int)) with hx341 | hx341
    · replace h := ct hx341 h
      refine k_chg rfl rfl rfl (Chg.of_val (v := .pointer (some ⟨b4, 1, none⟩)) (val_ia (j := 1) tt_ok rfl rfl rfl rfl (by simpa using hx341) rfl rfl)) rfl (.inl rfl) ?_
      rintro _ _ ⟨rfl, rfl⟩
      refine k_chg0 rfl rfl rfl (chg_store tt_ok rfl Upd.here rfl rfl rfl rfl rfl rfl) (.inl rfl) ?_
      rintro _ _ rfl
      refine k_end (by kernel_rfl) ?_
      refine wx_then (wc_seq (wc_region ?_))
      refine wl_val (v := .agg #[.int .u8 (0 : Int), .int .u8 v33]) (val_load tt_ok rfl (List.Mem.head _) rfl) rfl ?_
      apply wl_store tt_ok; rfl; exact Upd.here; rfl; rfl; rfl; rfl; rfl; rfl
      refine wl_nil (wx_then (wc_ret ?_))
      simp only [Option.some.injEq] at h
      obtain rfl := h
      exact wx_rd tt_ok (.inl rfl) Tryd.results42 (Res.cell rfl (List.Mem.head _) rfl Res.nil) (pSub (pCons (Sel.sc Sel.hc) (pApp (Sel.sc Sel.ha) (pApp (Sel.sc Sel.ha) (pCons (Sel.sc Sel.hc) (pApp (Sel.sc Sel.ha) (pCons (Sel.sc Sel.hc) (pApp (Sel.sc Sel.ha) pNil)))))))) rfl
    replace h := cf hx341 h
    cases h
  replace h := cf hx221 h
  cases h

theorem k_input_way {F : Nat} {p0 : Int} {p1 : Int} {p2 : Int} {r0 : Int} (h : m_input_way F p0 p1 p2 = some r0) :
    Pf Tryd.prog 74 [.int .u8 p0, .int .u8 p1, .int .u8 p2] (fun w => True) (.int .i32 r0) := by
  unfold m_input_way at h
  refine pf_of_wc Tryd.func74 rfl Tryd.ntmps74 rfl rfl (fun w0 hR => ?_)
  refine wc_seq (wc_region ?_)
  refine wl_pure tt_ok rfl rfl ?_
  refine wl_nil (wx_then (wc_seq (wc_seq (wc_region ?_))))
  iterate 3 refine wl_pure tt_ok rfl rfl ?_
  refine wl_pure (v := .int .u8 (bits .or .u8 p1 p2)) tt_ok rfl rfl ?_
  refine wl_pure (v := .int .u8 (bits .and .u8 p0 (bits .or .u8 p1 p2))) tt_ok rfl rfl ?_
  refine wl_nil (wx_then (wc_block (wc_seq (wc_region ?_))))
  refine wl_pure tt_ok rfl rfl ?_
  refine wl_pure (v := .bool ((bits .and .u8 p0 (bits .or .u8 p1 p2)) == p1)) tt_ok rfl rfl ?_
  refine wl_pure tt_ok rfl rfl ?_
  refine wl_nil (wx_then ?_)
  refine wc_cond rfl (fun hc => ?_) (fun hc => ?_)
  · replace h := ct hc h
    refine wc_seq (wc_region ?_)
    refine wl_pure tt_ok rfl rfl ?_
    refine wl_nil (wx_then (wc_ret (wx_block_ret (wx_then_ret ?_))))
    simp only [Option.some.injEq] at h
    obtain rfl := h
    exact wx_pf tt_ok (.inl rfl) Tryd.results74 (Res.tmp rfl Res.nil) rfl
  replace h := cf hc h
  refine wc_seq (wc_region ?_)
  refine wl_pure tt_ok rfl rfl ?_
  refine wl_pure (v := .bool ((bits .and .u8 p0 (bits .or .u8 p1 p2)) == p2)) tt_ok rfl rfl ?_
  refine wl_pure tt_ok rfl rfl ?_
  refine wl_nil (wx_then ?_)
  refine wc_cond rfl (fun hc => ?_) (fun hc => ?_)
  · replace h := ct hc h
    refine wc_seq (wc_region ?_)
    refine wl_pure tt_ok rfl rfl ?_
    refine wl_nil (wx_then (wc_ret (wx_block_ret (wx_then_ret ?_))))
    simp only [Option.some.injEq] at h
    obtain rfl := h
    exact wx_pf tt_ok (.inl rfl) Tryd.results74 (Res.tmp rfl Res.nil) rfl
  replace h := cf hc h
  refine wc_skip (wx_block (wx_then (wc_seq (wc_region ?_))))
  refine wl_pure tt_ok rfl rfl ?_
  refine wl_nil (wx_then (wc_ret ?_))
  simp only [Option.some.injEq] at h
  obtain rfl := h
  exact wx_pf tt_ok (.inl rfl) Tryd.results74 (Res.tmp rfl Res.nil) rfl

theorem k_input_Dir {F : Nat} {p0 : Int} {r0 : Int} {r1 : Int} (h : m_input_Dir F p0 = some (r0, r1)) :
    Pf Tryd.prog 65 [.int .u8 p0] (fun w => True) (.tuple #[.int .i32 r0, .int .i32 r1]) := by
  unfold m_input_Dir at h
  refine pf_of_wc Tryd.func65 rfl Tryd.ntmps65 rfl rfl (fun w0 hR => ?_)
  refine wc_seq (wc_region ?_)
  iterate 2 refine wl_pure tt_ok rfl rfl ?_
  refine wl_nil (wx_then (wc_seq (wc_region ?_)))
  refine wl_pure tt_ok rfl rfl ?_
  replace h := bsome h; obtain ⟨v5, x5, h⟩ := h
  refine wl_cq Tryd.call74 rfl rfl rfl (q_pf (k_input_way x5) (fun _ _ => trivial)) rfl ?_
  refine wl_pure tt_ok rfl rfl ?_
  replace h := bsome h; obtain ⟨v7, x7, h⟩ := h
  refine wl_cq Tryd.call74 rfl rfl rfl (q_pf (k_input_way x7) (fun _ _ => trivial)) rfl ?_
  iterate 2 refine wl_pure tt_ok rfl rfl ?_
  refine wl_nil (wx_then (wc_ret ?_))
  simp only [Option.some.injEq, Prod.mk.injEq] at h
  obtain ⟨rfl, rfl⟩ := h
  exact wx_pf tt_ok (.inl rfl) Tryd.results65 (Res.tmp rfl (Res.tmp rfl Res.nil)) rfl

theorem k_step_turn {F : Nat} {p0 : Int} {p1 : Int} {p2 : Int} {r0 : Int} (h : m_step_turn F p0 p1 p2 = some r0) :
    Pf Tryd.prog 66 [.int .u8 p0, .int .i32 p1, .int .i32 p2] (fun w => True) (.int .u8 r0) := by
  unfold m_step_turn at h
  refine pf_of_wc Tryd.func66 rfl Tryd.ntmps66 rfl rfl (fun w0 hR => ?_)
  refine wc_seq (wc_region ?_)
  refine wl_pure tt_ok rfl rfl ?_
  refine wl_nil (wx_then (wc_seq (wc_block (wc_seq (wc_region ?_)))))
  refine wl_pure tt_ok rfl rfl ?_
  refine wl_pure (v := .bool (decide ((0 : Int) < p1))) tt_ok rfl rfl ?_
  refine wl_pure tt_ok rfl rfl ?_
  refine wl_nil (wx_then ?_)
  refine wc_cond rfl (fun hc => ?_) (fun hc => ?_)
  · replace h := ct hc h
    refine wc_seq (wc_region ?_)
    refine wl_pure tt_ok rfl rfl ?_
    refine wl_nil (wx_then (wc_ret (wx_block_ret (wx_then_ret ?_))))
    simp only [Option.some.injEq] at h
    obtain rfl := h
    exact wx_pf tt_ok (.inl rfl) Tryd.results66 (Res.tmp rfl Res.nil) rfl
  replace h := cf hc h
  refine wc_seq (wc_region ?_)
  refine wl_pure tt_ok rfl rfl ?_
  refine wl_pure (v := .bool (decide (p1 < (0 : Int)))) tt_ok rfl rfl ?_
  refine wl_pure tt_ok rfl rfl ?_
  refine wl_nil (wx_then ?_)
  refine wc_cond rfl (fun hc => ?_) (fun hc => ?_)
  · replace h := ct hc h
    refine wc_seq (wc_region ?_)
    refine wl_pure tt_ok rfl rfl ?_
    refine wl_nil (wx_then (wc_ret (wx_block_ret (wx_then_ret ?_))))
    simp only [Option.some.injEq] at h
    obtain rfl := h
    exact wx_pf tt_ok (.inl rfl) Tryd.results66 (Res.tmp rfl Res.nil) rfl
  replace h := cf hc h
  refine wc_seq (wc_region ?_)
  refine wl_pure tt_ok rfl rfl ?_
  refine wl_pure (v := .bool (decide (p2 < (0 : Int)))) tt_ok rfl rfl ?_
  refine wl_pure tt_ok rfl rfl ?_
  refine wl_nil (wx_then ?_)
  refine wc_cond rfl (fun hc => ?_) (fun hc => ?_)
  · replace h := ct hc h
    refine wc_seq (wc_region ?_)
    refine wl_pure tt_ok rfl rfl ?_
    refine wl_nil (wx_then (wc_ret (wx_block_ret (wx_then_ret ?_))))
    simp only [Option.some.injEq] at h
    obtain rfl := h
    exact wx_pf tt_ok (.inl rfl) Tryd.results66 (Res.tmp rfl Res.nil) rfl
  replace h := cf hc h
  refine wc_seq (wc_region ?_)
  refine wl_pure tt_ok rfl rfl ?_
  refine wl_pure (v := .bool (decide ((0 : Int) < p2))) tt_ok rfl rfl ?_
  refine wl_pure tt_ok rfl rfl ?_
  refine wl_nil (wx_then ?_)
  refine wc_cond rfl (fun hc => ?_) (fun hc => ?_)
  · replace h := ct hc h
    refine wc_seq (wc_region ?_)
    refine wl_pure tt_ok rfl rfl ?_
    refine wl_nil (wx_then (wc_ret (wx_block_ret (wx_then_ret ?_))))
    simp only [Option.some.injEq] at h
    obtain rfl := h
    exact wx_pf tt_ok (.inl rfl) Tryd.results66 (Res.tmp rfl Res.nil) rfl
  replace h := cf hc h
  refine wc_skip (wx_block (wx_then (wc_seq (wc_region ?_))))
  iterate 2 refine wl_pure tt_ok rfl rfl ?_
  refine wl_nil (wx_then (wc_ret ?_))
  simp only [Option.some.injEq] at h
  obtain rfl := h
  exact wx_pf tt_ok (.inl rfl) Tryd.results66 (Res.tmp rfl Res.nil) rfl

theorem k_input_Dash {F : Nat} {p0 : Int} {r0 : Bool} (h : m_input_Dash F p0 = some r0) :
    Pf Tryd.prog 67 [.int .u8 p0] (fun w => True) (.bool r0) := by
  unfold m_input_Dash at h
  refine pf_of_wc Tryd.func67 rfl Tryd.ntmps67 rfl rfl (fun w0 hR => ?_)
  refine wc_seq (wc_region ?_)
  refine wl_pure tt_ok rfl rfl ?_
  refine wl_nil (wx_then (wc_seq (wc_region ?_)))
  refine wl_pure tt_ok rfl rfl ?_
  refine wl_pure (v := .int .u8 (bits .and .u8 p0 (32 : Int))) tt_ok rfl rfl ?_
  refine wl_pure (v := .bool ((bits .and .u8 p0 (32 : Int)) != (0 : Int))) tt_ok rfl rfl ?_
  refine wl_pure tt_ok rfl rfl ?_
  refine wl_nil (wx_then (wc_ret ?_))
  simp only [Option.some.injEq] at h
  obtain rfl := h
  exact wx_pf tt_ok (.inl rfl) Tryd.results67 (Res.tmp rfl Res.nil) rfl

theorem k_step_steer_1 {F : Nat} {p0 : Int} {p1 : Int} {p2 : Bool} {p2b p2t : Nat} {r0 : Int} (h : m_step_steer_1 F p0 p1 p2 = some r0) :
    Rd2 Tryd.prog 68 [.int .i32 p0, .int .i32 p1, .pointer (some ⟨p2b, 0, none⟩)] (⟨p2b, [.bool p2], p2t, (0, 0)⟩ :: []) (fun w => True) (.int .i32 r0) := by
  unfold m_step_steer_1 at h
  refine sp_of_wc Tryd.func68 rfl Tryd.ntmps68 rfl rfl (fun w0 hR => ?_)
  refine wc_seq (wc_region ?_)
  refine wl_pure tt_ok rfl rfl ?_
  refine wl_nil (wx_then (wc_seq (wc_seq (wc_region ?_))))
  refine wl_pure tt_ok rfl rfl ?_
  refine wl_pure (v := .bool (p1 != (0 : Int))) tt_ok rfl rfl ?_
  refine wl_nil (wx_then ?_)
  replace h := bsome h; obtain ⟨j6_0, h, hj6⟩ := h
  refine wc_join2 (fun E L => E = [(0, .int .i32 j6_0), (2, .pointer (some ⟨p2b, 0, none⟩)), (5, .int .i32 (0 : Int))] ∧ L = (⟨p2b, [.bool p2], p2t, (0, 0)⟩ :: [])) ?_ ?_
  · refine wc_cond rfl (fun hc => ?_) (fun hc => ?_)
    · replace h := ct hc h
      refine wc_region ?_
      iterate 2 refine wl_pure tt_ok rfl rfl ?_
      refine wl_pure (v := .int .i32 (IntKind.wrap .i32 ((64 : Int) * p1))) tt_ok rfl rfl ?_
      refine wl_pure (v := .int .i32 (IntKind.wrap .i32 (p0 + (IntKind.wrap .i32 ((64 : Int) * p1))))) tt_ok rfl rfl ?_
      refine wl_pure tt_ok rfl rfl ?_
      refine wl_nil ?_
      simp only [Option.some.injEq] at h
      obtain rfl := h
      exact wx_join ⟨rfl, rfl⟩ (agree_cons rfl (agree_cons rfl (agree_cons rfl agree_nil))) (pSub (pCons Sel.hc pNil))
    replace h := cf hc h
    refine wc_seq (wc_region ?_)
    iterate 2 refine wl_pure tt_ok rfl rfl ?_
    refine wl_pure (v := .int .i32 (IntKind.wrap .i32 (Int.tdiv p0 8))) tt_ok rfl rfl ?_
    refine wl_pure (v := .int .i32 (IntKind.wrap .i32 (p0 - (IntKind.wrap .i32 (Int.tdiv p0 8))))) tt_ok rfl rfl ?_
    refine wl_pure tt_ok rfl rfl ?_
    refine wl_nil (wx_then (wc_seq (wc_region ?_)))
    refine wl_pure tt_ok rfl rfl ?_
    refine wl_pure (v := .bool (decide ((-8 : Int) < (IntKind.wrap .i32 (p0 - (IntKind.wrap .i32 (Int.tdiv p0 8))))))) tt_ok rfl rfl ?_
    refine wl_pure tt_ok rfl rfl ?_
    replace h := bsome h; obtain ⟨v21, h, hg21⟩ := h
    refine wl_split (t := 18) rfl (fun hc => ?_) (fun hc => ?_)
    · replace h := ct hc h
      refine wl_run rfl ?_
      refine wl_pure tt_ok rfl rfl ?_
      refine wl_run rfl ?_
      refine wl_pure (v := .bool (decide ((IntKind.wrap .i32 (p0 - (IntKind.wrap .i32 (Int.tdiv p0 8)))) < (8 : Int)))) tt_ok rfl rfl ?_
      simp only [Option.some.injEq, Prod.mk.injEq] at h
      obtain rfl := h
      have h := hg21; clear hg21
      refine wl_pure (v := .bool (decide ((IntKind.wrap .i32 (p0 - (IntKind.wrap .i32 (Int.tdiv p0 8)))) < (8 : Int)))) tt_ok rfl rfl ?_
      refine wl_nil (wx_then ?_)
      refine wc_cond rfl (fun hc => ?_) (fun hc => ?_)
      · replace h := ct hc h
        refine wc_region ?_
        refine wl_pure tt_ok rfl rfl ?_
        refine wl_nil ?_
        simp only [Option.some.injEq] at h
        obtain rfl := h
        exact wx_join ⟨rfl, rfl⟩ (agree_cons rfl (agree_cons rfl (agree_cons rfl agree_nil))) (pSub (pCons Sel.hc pNil))
      replace h := cf hc h
      refine wc_skip ?_
      simp only [Option.some.injEq] at h
      obtain rfl := h
      exact wx_join ⟨rfl, rfl⟩ (agree_cons rfl (agree_cons rfl (agree_cons rfl agree_nil))) (pSub (pCons Sel.hc pNil))
    replace h := cf hc h
    refine wl_skip rfl rfl ?_
    refine wl_skip rfl rfl ?_
    simp only [Option.some.injEq, Prod.mk.injEq] at h
    obtain rfl := h
    have h := hg21; clear hg21
    refine wl_pure (v := .bool false) tt_ok rfl rfl ?_
    refine wl_nil (wx_then ?_)
    replace h := cf rfl h
    refine wc_cond_false rfl ?_
    refine wc_skip ?_
    simp only [Option.some.injEq] at h
    obtain rfl := h
    exact wx_join ⟨rfl, rfl⟩ (agree_cons rfl (agree_cons rfl (agree_cons rfl agree_nil))) (pSub (pCons Sel.hc pNil))
  rintro _ _ ⟨rfl, rfl⟩
  have h := hj6; clear hj6
  refine wc_seq (wc_seq (wc_region ?_))
  refine wl_val (v := .bool p2) (val_load tt_ok rfl (List.Mem.head _) rfl) rfl ?_
  refine wl_nil (wx_then ?_)
  replace h := bsome h; obtain ⟨j18_0, h, hj18⟩ := h
  refine wc_join2 (fun E L => E = [(0, .int .i32 j18_0), (5, .int .i32 (0 : Int))] ∧ L = (⟨p2b, [.bool p2], p2t, (0, 0)⟩ :: [])) ?_ ?_
  · refine wc_cond rfl (fun hc => ?_) (fun hc => ?_)
    · replace h := ct hc h
      refine wc_region ?_
      refine wl_pure tt_ok rfl rfl ?_
      refine wl_pure (v := .int .i32 (IntKind.wrap .i32 (j6_0 * (2 : Int)))) tt_ok rfl rfl ?_
      refine wl_pure tt_ok rfl rfl ?_
      refine wl_nil ?_
      simp only [Option.some.injEq] at h
      obtain rfl := h
      exact wx_join ⟨rfl, rfl⟩ (agree_cons rfl (agree_cons rfl agree_nil)) (pSub (pCons Sel.hc pNil))
    replace h := cf hc h
    refine wc_skip ?_
    simp only [Option.some.injEq] at h
    obtain rfl := h
    exact wx_join ⟨rfl, rfl⟩ (agree_cons rfl (agree_cons rfl agree_nil)) (pSub (pCons Sel.hc pNil))
  rintro _ _ ⟨rfl, rfl⟩
  have h := hj18; clear hj18
  refine wc_seq (wc_region ?_)
  refine wl_pure tt_ok rfl rfl ?_
  refine wl_pure (v := .int .i32 (min j18_0 (1024 : Int))) tt_ok rfl rfl ?_
  refine wl_pure (v := .int .i32 (max (-1024 : Int) (min j18_0 (1024 : Int)))) tt_ok rfl rfl ?_
  refine wl_pure tt_ok rfl rfl ?_
  refine wl_nil (wx_then (wc_ret ?_))
  simp only [Option.some.injEq] at h
  obtain rfl := h
  exact wx_rd tt_ok (.inl rfl) Tryd.results68 (Res.tmp rfl Res.nil) (pSub (pCons Sel.hc pNil)) rfl

theorem k_step_steer {F : Nat} {p0 : T_api_Player} {p1 : Int} {r0 : T_api_Player} (h : m_step_steer F p0 p1 = some r0) :
    Pf Tryd.prog 54 [.agg #[.int .i32 p0.X, .int .i32 p0.Y, .int .i32 p0.VX, .int .i32 p0.VY, .int .u8 p0.Health, .int .u8 p0.Cool, .int .u8 p0.Face], .int .u8 p1] (fun w => True) (.agg #[.int .i32 r0.X, .int .i32 r0.Y, .int .i32 r0.VX, .int .i32 r0.VY, .int .u8 r0.Health, .int .u8 r0.Cool, .int .u8 r0.Face]) := by
  unfold m_step_steer at h
  refine pf_of_wc Tryd.func54 rfl Tryd.ntmps54 rfl rfl (fun w0 hR => ?_)
  refine wc_seq (wc_region ?_)
  refine wl_box rfl rfl rfl (fun b2 => ?_)
  refine wl_alloc tt_ok rfl rfl (fun b4 => ?_)
  refine wl_nil (wx_then (wc_seq (wc_region ?_)))
  refine wl_pure tt_ok rfl rfl ?_
  replace h := bsome h; obtain ⟨⟨v11_0, v11_1⟩, x11, h⟩ := h; try dsimp only at h
  refine wl_cq Tryd.call65 rfl rfl rfl (q_pf (k_input_Dir x11) (fun _ _ => trivial)) rfl ?_
  iterate 5 refine wl_pure tt_ok rfl rfl ?_
  refine wl_nil (wx_then (wc_seq (wc_region ?_)))
  refine wl_pure (v := .pointer (some ⟨b2, 5, none⟩)) tt_ok rfl rfl ?_
  refine wl_val (v := .int .u8 p0.Cool) (val_load tt_ok rfl (List.Mem.tail _ (List.Mem.head _)) rfl) rfl ?_
  refine wl_pure (v := .pointer (some ⟨b2, 5, none⟩)) tt_ok rfl rfl ?_
  refine wl_val (v := .int .u8 p0.Cool) (val_load tt_ok rfl (List.Mem.tail _ (List.Mem.head _)) rfl) rfl ?_
  refine wl_pure (v := .int .u8 (min p0.Cool (1 : Int))) tt_ok rfl rfl ?_
  refine wl_pure (v := .int .u8 (IntKind.wrap .u8 (p0.Cool - (min p0.Cool (1 : Int))))) tt_ok rfl rfl ?_
  refine wl_pure (v := .pointer (some ⟨b2, 5, none⟩)) tt_ok rfl rfl ?_
  apply wl_store tt_ok; rfl; exact (Upd.there Upd.here); rfl; rfl; rfl; rfl; rfl; rfl
  refine wl_nil (wx_then (wc_seq (wc_region ?_)))
  refine wl_pure (v := .pointer (some ⟨b2, 6, none⟩)) tt_ok rfl rfl ?_
  refine wl_val (v := .int .u8 p0.Face) (val_load tt_ok rfl (List.Mem.tail _ (List.Mem.head _)) rfl) rfl ?_
  iterate 2 refine wl_pure tt_ok rfl rfl ?_
  replace h := bsome h; obtain ⟨v25, x25, h⟩ := h
  refine wl_cq Tryd.call66 rfl rfl rfl (q_pf (k_step_turn x25) (fun _ _ => trivial)) rfl ?_
  refine wl_pure (v := .pointer (some ⟨b2, 6, none⟩)) tt_ok rfl rfl ?_
  apply wl_store tt_ok; rfl; exact (Upd.there Upd.here); rfl; rfl; rfl; rfl; rfl; rfl
  refine wl_nil (wx_then (wc_seq (wc_region ?_)))
  refine wl_pure tt_ok rfl rfl ?_
  replace h := bsome h; obtain ⟨v28, x28, h⟩ := h
  refine wl_cq Tryd.call67 rfl rfl rfl (q_pf (k_input_Dash x28) (fun _ _ => trivial)) rfl ?_
  refine wl_pure tt_ok rfl rfl ?_
  replace h := bsome h; obtain ⟨v33, h, hg33⟩ := h
  refine wl_split (t := 29) rfl (fun hc => ?_) (fun hc => ?_)
  · replace h := ct hc h
    refine wl_run rfl ?_
    refine wl_pure (v := .pointer (some ⟨b2, 5, none⟩)) tt_ok rfl rfl ?_
    refine wl_run rfl ?_
    refine wl_val (v := .int .u8 (IntKind.wrap .u8 (p0.Cool - (min p0.Cool (1 : Int))))) (val_load tt_ok rfl (List.Mem.tail _ (List.Mem.head _)) rfl) rfl ?_
    refine wl_run rfl ?_
    refine wl_pure (v := .bool ((IntKind.wrap .u8 (p0.Cool - (min p0.Cool (1 : Int)))) == (0 : Int))) tt_ok rfl rfl ?_
    simp only [Option.some.injEq, Prod.mk.injEq] at h
    obtain rfl := h
    have h := hg33; clear hg33
    refine wl_pure (v := .bool ((IntKind.wrap .u8 (p0.Cool - (min p0.Cool (1 : Int)))) == (0 : Int))) tt_ok rfl rfl ?_
    refine wl_alloc tt_ok rfl rfl (fun b7 => ?_)
    apply wl_store tt_ok; rfl; exact Upd.here; rfl; rfl; rfl; rfl; rfl; rfl
    refine wl_nil (wx_then (wc_seq (wc_region ?_)))
    iterate 2 refine wl_pure tt_ok rfl rfl ?_
    refine wl_nil (wx_then (wc_seq ?_))
    refine wc_k2 (Ls := (⟨b7, [.bool ((IntKind.wrap .u8 (p0.Cool - (min p0.Cool (1 : Int)))) == (0 : Int))], 4, (0, 0)⟩ :: (⟨b4, [.int .i32 (0 : Int), .int .i32 (0 : Int), .int .i32 (0 : Int), .int .i32 (0 : Int), .int .u8 (0 : Int), .int .u8 (0 : Int), .int .u8 (0 : Int)], 30, (0, 0)⟩ :: (⟨b2, [.int .i32 p0.X, .int .i32 p0.Y, .int .i32 p0.VX, .int .i32 p0.VY, .int .u8 p0.Health, .int .u8 (IntKind.wrap .u8 (p0.Cool - (min p0.Cool (1 : Int)))), .int .u8 v25], 30, (0, 0)⟩ :: [])))) [4, 9, 11, 12, 13] [11, 12, 13] [0, 0, 2, 0, 15, 0, 0, 64, 0, 511, 223, 2047, 4095, 8191] [0, 1, 2, 3, 5, 6, 7, 8, 4, 10, 9, 11, 12, 13] (by kernel_rfl) (by kernel_rfl) (by kernel_rfl) ?_
    refine k_val rfl rfl rfl (pSub (pCons Sel.hc (pCons Sel.hc (pCons Sel.hc pNil)))) (stepV_ok tt_ok rfl) rfl ?_
    refine k_val (v := .pointer (some ⟨b2, 2, none⟩)) rfl rfl rfl (pSub (pCons Sel.hc (pCons Sel.hc (pCons Sel.hc pNil)))) (stepV_ok tt_ok rfl) rfl ?_
    refine k_val (v := .int .i32 p0.VX) rfl rfl rfl (pSub (pCons Sel.hc (pCons Sel.hc (pCons Sel.hc pNil)))) (val_load tt_ok rfl (List.Mem.tail _ (List.Mem.tail _ (List.Mem.head _))) rfl) rfl ?_
    refine k_val rfl rfl rfl (pSub (pCons Sel.hc (pCons Sel.hc (pCons Sel.hc pNil)))) (stepV_ok tt_ok rfl) rfl ?_
    refine k_val rfl rfl rfl (pSub (pCons Sel.hc (pCons Sel.hc (pCons Sel.hc pNil)))) (stepV_ok tt_ok rfl) rfl ?_
    refine k_val (v := .pointer (some ⟨b2, 3, none⟩)) rfl rfl rfl (pSub (pCons Sel.hc (pCons Sel.hc (pCons Sel.hc pNil)))) (stepV_ok tt_ok rfl) rfl ?_
    refine k_val (v := .int .i32 p0.VY) rfl rfl rfl (pSub (pCons Sel.hc (pCons Sel.hc (pCons Sel.hc pNil)))) (val_load tt_ok rfl (List.Mem.tail _ (List.Mem.tail _ (List.Mem.head _))) rfl) rfl ?_
    refine k_val rfl rfl rfl (pSub (pCons Sel.hc (pCons Sel.hc (pCons Sel.hc pNil)))) (stepV_ok tt_ok rfl) rfl ?_
    replace h := bsome h; obtain ⟨v39, x39, h⟩ := h
    refine k_cq rfl rfl rfl Tryd.call68 rfl rfl rfl (q_rd (k_step_steer_1 x39) (pCons Sel.hc pNil) (fun _ _ => trivial)) rfl (pSub (pCons Sel.hc (pCons Sel.hc (pCons Sel.hc pNil)))) ?_
    refine k_val (v := .pointer (some ⟨b2, 2, none⟩)) rfl rfl rfl (pSub (pCons Sel.hc (pCons Sel.hc (pCons Sel.hc pNil)))) (stepV_ok tt_ok rfl) rfl ?_
    replace h := bsome h; obtain ⟨v44, x44, h⟩ := h
    refine k_cq rfl rfl rfl Tryd.call68 rfl rfl rfl (q_rd (k_step_steer_1 x44) (pCons Sel.hc pNil) (fun _ _ => trivial)) rfl (pSub (pCons Sel.hc (pCons Sel.hc (pCons Sel.hc pNil)))) ?_
    refine k_chg0 rfl rfl rfl (chg_store tt_ok rfl (Upd.there (Upd.there Upd.here)) rfl rfl rfl rfl rfl rfl) (.inl rfl) ?_
    rintro _ _ rfl
    refine k_chg rfl rfl rfl (Chg.of_val (v := .pointer (some ⟨b2, 3, none⟩)) (stepV_ok tt_ok rfl)) rfl (.inl rfl) ?_
    rintro _ _ ⟨rfl, rfl⟩
    refine k_chg0 rfl rfl rfl (chg_store tt_ok rfl (Upd.there (Upd.there Upd.here)) rfl rfl rfl rfl rfl rfl) (.inl rfl) ?_
    rintro _ _ rfl
    refine k_end (by kernel_rfl) ?_
    refine wx_then (wc_seq (wc_seq (wc_region ?_)))
    refine wl_val (v := .bool ((IntKind.wrap .u8 (p0.Cool - (min p0.Cool (1 : Int)))) == (0 : Int))) (val_load tt_ok rfl (List.Mem.head _) rfl) rfl ?_
    refine wl_nil (wx_then ?_)
    replace h := bsome h; obtain ⟨j18_n2, h, hj18⟩ := h
    refine wc_join2 (fun E L => E = [(2, .pointer (some ⟨b2, 0, none⟩)), (4, .pointer (some ⟨b4, 0, none⟩))] ∧ L = (⟨b2, [.int .i32 j18_n2.X, .int .i32 j18_n2.Y, .int .i32 j18_n2.VX, .int .i32 j18_n2.VY, .int .u8 j18_n2.Health, .int .u8 j18_n2.Cool, .int .u8 j18_n2.Face], 30, (0, 0)⟩ :: (⟨b4, [.int .i32 (0 : Int), .int .i32 (0 : Int), .int .i32 (0 : Int), .int .i32 (0 : Int), .int .u8 (0 : Int), .int .u8 (0 : Int), .int .u8 (0 : Int)], 30, (0, 0)⟩ :: []))) ?_ ?_
    · refine wc_cond rfl (fun hc => ?_) (fun hc => ?_)
      · replace h := ct hc h
        refine wc_region ?_
        refine wl_pure (v := .pointer (some ⟨b2, 5, none⟩)) tt_ok rfl rfl ?_
        apply wl_store tt_ok; rfl; exact (Upd.there (Upd.there Upd.here)); rfl; rfl; rfl; rfl; rfl; rfl
        refine wl_nil ?_
        simp only [Option.some.injEq] at h
        obtain rfl := h
        exact wx_join ⟨rfl, rfl⟩ (agree_cons rfl (agree_cons rfl agree_nil)) (pSub (pCons (Sel.sc (Sel.sc Sel.hc)) (pCons (Sel.sc Sel.hc) pNil)))
      replace h := cf hc h
      refine wc_skip ?_
      simp only [Option.some.injEq] at h
      obtain rfl := h
      exact wx_join ⟨rfl, rfl⟩ (agree_cons rfl (agree_cons rfl agree_nil)) (pSub (pCons (Sel.sc (Sel.sc Sel.hc)) (pCons (Sel.sc Sel.hc) pNil)))
    rintro _ _ ⟨rfl, rfl⟩
    have h := hj18; clear hj18
    refine wc_seq (wc_region ?_)
    refine wl_val (v := .agg #[.int .i32 j18_n2.X, .int .i32 j18_n2.Y, .int .i32 j18_n2.VX, .int .i32 j18_n2.VY, .int .u8 j18_n2.Health, .int .u8 j18_n2.Cool, .int .u8 j18_n2.Face]) (val_load tt_ok rfl (List.Mem.head _) rfl) rfl ?_
    apply wl_store tt_ok; rfl; exact (Upd.there Upd.here); rfl; rfl; rfl; rfl; rfl; rfl
    refine wl_nil (wx_then (wc_ret ?_))
    simp only [Option.some.injEq] at h
    obtain rfl := h
    exact wx_pf tt_ok (.inl rfl) Tryd.results54 (Res.cell rfl (List.Mem.tail _ (List.Mem.head _)) rfl Res.nil) rfl
  replace h := cf hc h
  refine wl_skip rfl rfl ?_
  refine wl_skip rfl rfl ?_
  refine wl_skip rfl rfl ?_
  simp only [Option.some.injEq, Prod.mk.injEq] at h
  obtain rfl := h
  have h := hg33; clear hg33
  refine wl_pure (v := .bool false) tt_ok rfl rfl ?_
  refine wl_alloc tt_ok rfl rfl (fun b7 => ?_)
  apply wl_store tt_ok; rfl; exact Upd.here; rfl; rfl; rfl; rfl; rfl; rfl
  refine wl_nil (wx_then (wc_seq (wc_region ?_)))
  iterate 2 refine wl_pure tt_ok rfl rfl ?_
  refine wl_nil (wx_then (wc_seq ?_))
  refine wc_k2 (Ls := (⟨b7, [.bool false], 4, (0, 0)⟩ :: (⟨b4, [.int .i32 (0 : Int), .int .i32 (0 : Int), .int .i32 (0 : Int), .int .i32 (0 : Int), .int .u8 (0 : Int), .int .u8 (0 : Int), .int .u8 (0 : Int)], 30, (0, 0)⟩ :: (⟨b2, [.int .i32 p0.X, .int .i32 p0.Y, .int .i32 p0.VX, .int .i32 p0.VY, .int .u8 p0.Health, .int .u8 (IntKind.wrap .u8 (p0.Cool - (min p0.Cool (1 : Int)))), .int .u8 v25], 30, (0, 0)⟩ :: [])))) [4, 9, 11, 12, 13] [11, 12, 13] [0, 0, 2, 0, 15, 0, 0, 64, 0, 511, 223, 2047, 4095, 8191] [0, 1, 2, 3, 5, 6, 7, 8, 4, 10, 9, 11, 12, 13] (by kernel_rfl) (by kernel_rfl) (by kernel_rfl) ?_
  refine k_val rfl rfl rfl (pSub (pCons Sel.hc (pCons Sel.hc (pCons Sel.hc pNil)))) (stepV_ok tt_ok rfl) rfl ?_
  refine k_val (v := .pointer (some ⟨b2, 2, none⟩)) rfl rfl rfl (pSub (pCons Sel.hc (pCons Sel.hc (pCons Sel.hc pNil)))) (stepV_ok tt_ok rfl) rfl ?_
  refine k_val (v := .int .i32 p0.VX) rfl rfl rfl (pSub (pCons Sel.hc (pCons Sel.hc (pCons Sel.hc pNil)))) (val_load tt_ok rfl (List.Mem.tail _ (List.Mem.tail _ (List.Mem.head _))) rfl) rfl ?_
  refine k_val rfl rfl rfl (pSub (pCons Sel.hc (pCons Sel.hc (pCons Sel.hc pNil)))) (stepV_ok tt_ok rfl) rfl ?_
  refine k_val rfl rfl rfl (pSub (pCons Sel.hc (pCons Sel.hc (pCons Sel.hc pNil)))) (stepV_ok tt_ok rfl) rfl ?_
  refine k_val (v := .pointer (some ⟨b2, 3, none⟩)) rfl rfl rfl (pSub (pCons Sel.hc (pCons Sel.hc (pCons Sel.hc pNil)))) (stepV_ok tt_ok rfl) rfl ?_
  refine k_val (v := .int .i32 p0.VY) rfl rfl rfl (pSub (pCons Sel.hc (pCons Sel.hc (pCons Sel.hc pNil)))) (val_load tt_ok rfl (List.Mem.tail _ (List.Mem.tail _ (List.Mem.head _))) rfl) rfl ?_
  refine k_val rfl rfl rfl (pSub (pCons Sel.hc (pCons Sel.hc (pCons Sel.hc pNil)))) (stepV_ok tt_ok rfl) rfl ?_
  replace h := bsome h; obtain ⟨v39, x39, h⟩ := h
  refine k_cq rfl rfl rfl Tryd.call68 rfl rfl rfl (q_rd (k_step_steer_1 x39) (pCons Sel.hc pNil) (fun _ _ => trivial)) rfl (pSub (pCons Sel.hc (pCons Sel.hc (pCons Sel.hc pNil)))) ?_
  refine k_val (v := .pointer (some ⟨b2, 2, none⟩)) rfl rfl rfl (pSub (pCons Sel.hc (pCons Sel.hc (pCons Sel.hc pNil)))) (stepV_ok tt_ok rfl) rfl ?_
  replace h := bsome h; obtain ⟨v44, x44, h⟩ := h
  refine k_cq rfl rfl rfl Tryd.call68 rfl rfl rfl (q_rd (k_step_steer_1 x44) (pCons Sel.hc pNil) (fun _ _ => trivial)) rfl (pSub (pCons Sel.hc (pCons Sel.hc (pCons Sel.hc pNil)))) ?_
  refine k_chg0 rfl rfl rfl (chg_store tt_ok rfl (Upd.there (Upd.there Upd.here)) rfl rfl rfl rfl rfl rfl) (.inl rfl) ?_
  rintro _ _ rfl
  refine k_chg rfl rfl rfl (Chg.of_val (v := .pointer (some ⟨b2, 3, none⟩)) (stepV_ok tt_ok rfl)) rfl (.inl rfl) ?_
  rintro _ _ ⟨rfl, rfl⟩
  refine k_chg0 rfl rfl rfl (chg_store tt_ok rfl (Upd.there (Upd.there Upd.here)) rfl rfl rfl rfl rfl rfl) (.inl rfl) ?_
  rintro _ _ rfl
  refine k_end (by kernel_rfl) ?_
  refine wx_then (wc_seq (wc_seq (wc_region ?_)))
  refine wl_val (v := .bool false) (val_load tt_ok rfl (List.Mem.head _) rfl) rfl ?_
  refine wl_nil (wx_then ?_)
  replace h := bsome h; obtain ⟨j18_n2, h, hj18⟩ := h
  refine wc_join2 (fun E L => E = [(2, .pointer (some ⟨b2, 0, none⟩)), (4, .pointer (some ⟨b4, 0, none⟩))] ∧ L = (⟨b2, [.int .i32 j18_n2.X, .int .i32 j18_n2.Y, .int .i32 j18_n2.VX, .int .i32 j18_n2.VY, .int .u8 j18_n2.Health, .int .u8 j18_n2.Cool, .int .u8 j18_n2.Face], 30, (0, 0)⟩ :: (⟨b4, [.int .i32 (0 : Int), .int .i32 (0 : Int), .int .i32 (0 : Int), .int .i32 (0 : Int), .int .u8 (0 : Int), .int .u8 (0 : Int), .int .u8 (0 : Int)], 30, (0, 0)⟩ :: []))) ?_ ?_
  · replace h := cf rfl h
    refine wc_cond_false rfl ?_
    refine wc_skip ?_
    simp only [Option.some.injEq] at h
    obtain rfl := h
    exact wx_join ⟨rfl, rfl⟩ (agree_cons rfl (agree_cons rfl agree_nil)) (pSub (pCons (Sel.sc (Sel.sc Sel.hc)) (pCons (Sel.sc Sel.hc) pNil)))
  rintro _ _ ⟨rfl, rfl⟩
  have h := hj18; clear hj18
  refine wc_seq (wc_region ?_)
  refine wl_val (v := .agg #[.int .i32 j18_n2.X, .int .i32 j18_n2.Y, .int .i32 j18_n2.VX, .int .i32 j18_n2.VY, .int .u8 j18_n2.Health, .int .u8 j18_n2.Cool, .int .u8 j18_n2.Face]) (val_load tt_ok rfl (List.Mem.head _) rfl) rfl ?_
  apply wl_store tt_ok; rfl; exact (Upd.there Upd.here); rfl; rfl; rfl; rfl; rfl; rfl
  refine wl_nil (wx_then (wc_ret ?_))
  simp only [Option.some.injEq] at h
  obtain rfl := h
  exact wx_pf tt_ok (.inl rfl) Tryd.results54 (Res.cell rfl (List.Mem.tail _ (List.Mem.head _)) rfl Res.nil) rfl

theorem k_input_Fire {F : Nat} {p0 : Int} {r0 : Bool} (h : m_input_Fire F p0 = some r0) :
    Pf Tryd.prog 55 [.int .u8 p0] (fun w => True) (.bool r0) := by
  unfold m_input_Fire at h
  refine pf_of_wc Tryd.func55 rfl Tryd.ntmps55 rfl rfl (fun w0 hR => ?_)
  refine wc_seq (wc_region ?_)
  refine wl_pure tt_ok rfl rfl ?_
  refine wl_nil (wx_then (wc_seq (wc_region ?_)))
  refine wl_pure tt_ok rfl rfl ?_
  refine wl_pure (v := .int .u8 (bits .and .u8 p0 (16 : Int))) tt_ok rfl rfl ?_
  refine wl_pure (v := .bool ((bits .and .u8 p0 (16 : Int)) != (0 : Int))) tt_ok rfl rfl ?_
  refine wl_pure tt_ok rfl rfl ?_
  refine wl_nil (wx_then (wc_ret ?_))
  simp only [Option.some.injEq] at h
  obtain rfl := h
  exact wx_pf tt_ok (.inl rfl) Tryd.results55 (Res.tmp rfl Res.nil) rfl

theorem k_step_shoot {F : Nat} {p0 : T_api_Player} {p1 : Int} {r0 : T_api_Shot} (h : m_step_shoot F p0 p1 = some r0) :
    Pf Tryd.prog 56 [.agg #[.int .i32 p0.X, .int .i32 p0.Y, .int .i32 p0.VX, .int .i32 p0.VY, .int .u8 p0.Health, .int .u8 p0.Cool, .int .u8 p0.Face], .int .u8 p1] (fun w => True) (.agg #[.int .i32 r0.X, .int .i32 r0.Y, .int .i32 r0.VX, .int .i32 r0.VY, .int .u8 r0.Owner, .int .u8 r0.Life]) := by
  unfold m_step_shoot at h
  refine pf_of_wc Tryd.func56 rfl Tryd.ntmps56 rfl rfl (fun w0 hR => ?_)
  refine wc_seq (wc_region ?_)
  refine wl_box rfl rfl rfl (fun b2 => ?_)
  refine wl_alloc tt_ok rfl rfl (fun b4 => ?_)
  refine wl_nil (wx_then (wc_seq (wc_region ?_)))
  refine wl_pure (v := .pointer (some ⟨b2, 0, none⟩)) tt_ok rfl rfl ?_
  refine wl_val (v := .int .i32 p0.X) (val_load tt_ok rfl (List.Mem.tail _ (List.Mem.head _)) rfl) rfl ?_
  refine wl_pure (v := .int .i32 (IntKind.wrap .i32 (p0.X + (1792 : Int)))) tt_ok rfl rfl ?_
  refine wl_pure (v := .pointer (some ⟨b2, 1, none⟩)) tt_ok rfl rfl ?_
  refine wl_val (v := .int .i32 p0.Y) (val_load tt_ok rfl (List.Mem.tail _ (List.Mem.head _)) rfl) rfl ?_
  refine wl_pure (v := .int .i32 (IntKind.wrap .i32 (p0.Y + (1792 : Int)))) tt_ok rfl rfl ?_
  refine wl_pure tt_ok rfl rfl ?_
  refine wl_pure (v := .agg #[.int .i32 (IntKind.wrap .i32 (p0.X + (1792 : Int))), .int .i32 (IntKind.wrap .i32 (p0.Y + (1792 : Int))), .int .i32 (0 : Int), .int .i32 (0 : Int), .int .u8 p1, .int .u8 (40 : Int)]) tt_ok rfl rfl ?_
  refine wl_alloc tt_ok rfl rfl (fun b5 => ?_)
  apply wl_store tt_ok; rfl; exact Upd.here; rfl; rfl; rfl; rfl; rfl; rfl
  refine wl_nil (wx_then (wc_seq (wc_seq (wc_region ?_))))
  refine wl_pure (v := .pointer (some ⟨b2, 6, none⟩)) tt_ok rfl rfl ?_
  refine wl_val (v := .int .u8 p0.Face) (val_load tt_ok rfl (List.Mem.tail _ (List.Mem.tail _ (List.Mem.head _))) rfl) rfl ?_
  refine wl_nil (wx_then ?_)
  replace h := bsome h; obtain ⟨j8_n5, h, hj8⟩ := h
  refine wc_join2 (fun E L => E = [(4, .pointer (some ⟨b4, 0, none⟩)), (5, .pointer (some ⟨b5, 0, none⟩))] ∧ L = (⟨b4, [.int .i32 (0 : Int), .int .i32 (0 : Int), .int .i32 (0 : Int), .int .i32 (0 : Int), .int .u8 (0 : Int), .int .u8 (0 : Int)], 80, (0, 0)⟩ :: (⟨b5, [.int .i32 j8_n5.X, .int .i32 j8_n5.Y, .int .i32 j8_n5.VX, .int .i32 j8_n5.VY, .int .u8 j8_n5.Owner, .int .u8 j8_n5.Life], 80, (0, 0)⟩ :: []))) ?_ ?_
  · refine wc_block (wc_seq (wc_region ?_))
    refine wl_pure (v := .bool (p0.Face == (0 : Int))) tt_ok rfl rfl ?_
    refine wl_pure tt_ok rfl rfl ?_
    refine wl_nil (wx_then ?_)
    refine wc_cond rfl (fun hc => ?_) (fun hc => ?_)
    · replace h := ct hc h
      refine wc_region ?_
      refine wl_pure (v := .pointer (some ⟨b5, 2, none⟩)) tt_ok rfl rfl ?_
      apply wl_store tt_ok; rfl; exact Upd.here; rfl; rfl; rfl; rfl; rfl; rfl
      refine wl_nil (wx_block ?_)
      simp only [Option.some.injEq] at h
      obtain rfl := h
      exact wx_join ⟨rfl, rfl⟩ (agree_cons rfl (agree_cons rfl agree_nil)) (pSub (pCons (Sel.sc Sel.hc) (pCons Sel.hc pNil)))
    replace h := cf hc h
    refine wc_seq (wc_region ?_)
    refine wl_pure (v := .bool (p0.Face == (1 : Int))) tt_ok rfl rfl ?_
    refine wl_pure tt_ok rfl rfl ?_
    refine wl_nil (wx_then ?_)
    refine wc_cond rfl (fun hc => ?_) (fun hc => ?_)
    · replace h := ct hc h
      refine wc_region ?_
      refine wl_pure (v := .pointer (some ⟨b5, 2, none⟩)) tt_ok rfl rfl ?_
      apply wl_store tt_ok; rfl; exact Upd.here; rfl; rfl; rfl; rfl; rfl; rfl
      refine wl_nil (wx_block ?_)
      simp only [Option.some.injEq] at h
      obtain rfl := h
      exact wx_join ⟨rfl, rfl⟩ (agree_cons rfl (agree_cons rfl agree_nil)) (pSub (pCons (Sel.sc Sel.hc) (pCons Sel.hc pNil)))
    replace h := cf hc h
    refine wc_seq (wc_region ?_)
    refine wl_pure (v := .bool (p0.Face == (2 : Int))) tt_ok rfl rfl ?_
    refine wl_pure tt_ok rfl rfl ?_
    refine wl_nil (wx_then ?_)
    refine wc_cond rfl (fun hc => ?_) (fun hc => ?_)
    · replace h := ct hc h
      refine wc_region ?_
      refine wl_pure (v := .pointer (some ⟨b5, 3, none⟩)) tt_ok rfl rfl ?_
      apply wl_store tt_ok; rfl; exact Upd.here; rfl; rfl; rfl; rfl; rfl; rfl
      refine wl_nil (wx_block ?_)
      simp only [Option.some.injEq] at h
      obtain rfl := h
      exact wx_join ⟨rfl, rfl⟩ (agree_cons rfl (agree_cons rfl agree_nil)) (pSub (pCons (Sel.sc Sel.hc) (pCons Sel.hc pNil)))
    replace h := cf hc h
    refine wc_region ?_
    refine wl_pure (v := .pointer (some ⟨b5, 3, none⟩)) tt_ok rfl rfl ?_
    apply wl_store tt_ok; rfl; exact Upd.here; rfl; rfl; rfl; rfl; rfl; rfl
    refine wl_nil (wx_block ?_)
    simp only [Option.some.injEq] at h
    obtain rfl := h
    exact wx_join ⟨rfl, rfl⟩ (agree_cons rfl (agree_cons rfl agree_nil)) (pSub (pCons (Sel.sc Sel.hc) (pCons Sel.hc pNil)))
  rintro _ _ ⟨rfl, rfl⟩
  have h := hj8; clear hj8
  refine wc_seq (wc_region ?_)
  refine wl_val (v := .agg #[.int .i32 j8_n5.X, .int .i32 j8_n5.Y, .int .i32 j8_n5.VX, .int .i32 j8_n5.VY, .int .u8 j8_n5.Owner, .int .u8 j8_n5.Life]) (val_load tt_ok rfl (List.Mem.tail _ (List.Mem.head _)) rfl) rfl ?_
  apply wl_store tt_ok; rfl; exact Upd.here; rfl; rfl; rfl; rfl; rfl; rfl
  refine wl_nil (wx_then (wc_ret ?_))
  simp only [Option.some.injEq] at h
  obtain rfl := h
  exact wx_pf tt_ok (.inl rfl) Tryd.results56 (Res.cell rfl (List.Mem.head _) rfl Res.nil) rfl

theorem k_geom_Move {F : Nat} {p0 : Int} {p1 : Int} {p2 : Int} {p3 : Int} {r0 : Int} {r1 : Int} (h : m_geom_Move F p0 p1 p2 p3 = some (r0, r1)) :
    Pf Tryd.prog 69 [.int .i32 p0, .int .i32 p1, .int .i32 p2, .int .i32 p3] (fun w => True) (.tuple #[.int .i32 r0, .int .i32 r1]) := by
  unfold m_geom_Move at h
  refine pf_of_wc Tryd.func69 rfl Tryd.ntmps69 rfl rfl (fun w0 hR => ?_)
  refine wc_seq (wc_region ?_)
  iterate 2 refine wl_pure tt_ok rfl rfl ?_
  refine wl_nil (wx_then (wc_seq (wc_region ?_)))
  refine wl_pure tt_ok rfl rfl ?_
  refine wl_pure (v := .int .i64 (IntKind.wrap .i64 p0)) tt_ok rfl rfl ?_
  refine wl_pure tt_ok rfl rfl ?_
  refine wl_pure (v := .int .i64 (IntKind.wrap .i64 p1)) tt_ok rfl rfl ?_
  refine wl_pure (v := .int .i64 (IntKind.wrap .i64 ((IntKind.wrap .i64 p0) + (IntKind.wrap .i64 p1)))) tt_ok rfl rfl ?_
  refine wl_pure tt_ok rfl rfl ?_
  refine wl_nil (wx_then (wc_seq (wc_seq (wc_region ?_))))
  iterate 2 refine wl_pure tt_ok rfl rfl ?_
  refine wl_pure (v := .bool (decide (p3 < p2))) tt_ok rfl rfl ?_
  refine wl_pure tt_ok rfl rfl ?_
  replace h := bsome h; obtain ⟨v24, h, hg24⟩ := h
  refine wl_split (t := 19) rfl (fun hc => ?_) (fun hc => ?_)
  · replace h := ct hc h
    refine wl_skip rfl rfl ?_
    refine wl_skip rfl rfl ?_
    refine wl_skip rfl rfl ?_
    refine wl_skip rfl rfl ?_
    simp only [Option.some.injEq, Prod.mk.injEq] at h
    obtain rfl := h
    have h := hg24; clear hg24
    refine wl_pure (v := .bool true) tt_ok rfl rfl ?_
    refine wl_nil (wx_then ?_)
    replace h := ct rfl h
    refine wc_cond_true rfl ?_
    refine wc_seq (wc_region ?_)
    iterate 3 refine wl_pure tt_ok rfl rfl ?_
    refine wl_nil (wx_then (wc_ret (wx_then_ret ?_)))
    simp only [Option.some.injEq, Prod.mk.injEq] at h
    obtain ⟨rfl, rfl⟩ := h
    exact wx_pf tt_ok (.inl rfl) Tryd.results69 (Res.tmp rfl (Res.tmp rfl Res.nil)) rfl
  replace h := cf hc h
  refine wl_run rfl ?_
  refine wl_pure tt_ok rfl rfl ?_
  refine wl_run rfl ?_
  refine wl_pure tt_ok rfl rfl ?_
  refine wl_run rfl ?_
  refine wl_pure (v := .int .i64 (IntKind.wrap .i64 p2)) tt_ok rfl rfl ?_
  refine wl_run rfl ?_
  refine wl_pure (v := .bool (decide ((IntKind.wrap .i64 ((IntKind.wrap .i64 p0) + (IntKind.wrap .i64 p1))) < (IntKind.wrap .i64 p2)))) tt_ok rfl rfl ?_
  simp only [Option.some.injEq, Prod.mk.injEq] at h
  obtain rfl := h
  have h := hg24; clear hg24
  refine wl_pure (v := .bool (decide ((IntKind.wrap .i64 ((IntKind.wrap .i64 p0) + (IntKind.wrap .i64 p1))) < (IntKind.wrap .i64 p2)))) tt_ok rfl rfl ?_
  refine wl_nil (wx_then ?_)
  refine wc_cond rfl (fun hc => ?_) (fun hc => ?_)
  · replace h := ct hc h
    refine wc_seq (wc_region ?_)
    iterate 3 refine wl_pure tt_ok rfl rfl ?_
    refine wl_nil (wx_then (wc_ret (wx_then_ret ?_)))
    simp only [Option.some.injEq, Prod.mk.injEq] at h
    obtain ⟨rfl, rfl⟩ := h
    exact wx_pf tt_ok (.inl rfl) Tryd.results69 (Res.tmp rfl (Res.tmp rfl Res.nil)) rfl
  replace h := cf hc h
  refine wc_skip (wx_then (wc_seq (wc_seq (wc_region ?_))))
  iterate 2 refine wl_pure tt_ok rfl rfl ?_
  refine wl_pure (v := .int .i64 (IntKind.wrap .i64 p3)) tt_ok rfl rfl ?_
  refine wl_pure (v := .bool (decide ((IntKind.wrap .i64 p3) < (IntKind.wrap .i64 ((IntKind.wrap .i64 p0) + (IntKind.wrap .i64 p1)))))) tt_ok rfl rfl ?_
  refine wl_nil (wx_then ?_)
  refine wc_cond rfl (fun hc => ?_) (fun hc => ?_)
  · replace h := ct hc h
    refine wc_seq (wc_region ?_)
    iterate 3 refine wl_pure tt_ok rfl rfl ?_
    refine wl_nil (wx_then (wc_ret (wx_then_ret ?_)))
    simp only [Option.some.injEq, Prod.mk.injEq] at h
    obtain ⟨rfl, rfl⟩ := h
    exact wx_pf tt_ok (.inl rfl) Tryd.results69 (Res.tmp rfl (Res.tmp rfl Res.nil)) rfl
  replace h := cf hc h
  refine wc_skip (wx_then (wc_seq (wc_region ?_)))
  refine wl_pure tt_ok rfl rfl ?_
  refine wl_pure (v := .int .i32 (IntKind.wrap .i32 (IntKind.wrap .i64 ((IntKind.wrap .i64 p0) + (IntKind.wrap .i64 p1))))) tt_ok rfl rfl ?_
  iterate 3 refine wl_pure tt_ok rfl rfl ?_
  refine wl_nil (wx_then (wc_ret ?_))
  simp only [Option.some.injEq, Prod.mk.injEq] at h
  obtain ⟨rfl, rfl⟩ := h
  exact wx_pf tt_ok (.inl rfl) Tryd.results69 (Res.tmp rfl (Res.tmp rfl Res.nil)) rfl

theorem k_step_moved {F : Nat} {p0 : T_api_Player} {r0 : T_api_Player} (h : m_step_moved F p0 = some r0) :
    Pf Tryd.prog 57 [.agg #[.int .i32 p0.X, .int .i32 p0.Y, .int .i32 p0.VX, .int .i32 p0.VY, .int .u8 p0.Health, .int .u8 p0.Cool, .int .u8 p0.Face]] (fun w => True) (.agg #[.int .i32 r0.X, .int .i32 r0.Y, .int .i32 r0.VX, .int .i32 r0.VY, .int .u8 r0.Health, .int .u8 r0.Cool, .int .u8 r0.Face]) := by
  unfold m_step_moved at h
  refine pf_of_wc Tryd.func57 rfl Tryd.ntmps57 rfl rfl (fun w0 hR => ?_)
  refine wc_seq (wc_region ?_)
  refine wl_box rfl rfl rfl (fun b1 => ?_)
  refine wl_alloc tt_ok rfl rfl (fun b2 => ?_)
  refine wl_nil (wx_then (wc_seq (wc_region ?_)))
  refine wl_pure (v := .pointer (some ⟨b1, 0, none⟩)) tt_ok rfl rfl ?_
  refine wl_val (v := .int .i32 p0.X) (val_load tt_ok rfl (List.Mem.tail _ (List.Mem.head _)) rfl) rfl ?_
  refine wl_pure (v := .pointer (some ⟨b1, 2, none⟩)) tt_ok rfl rfl ?_
  refine wl_val (v := .int .i32 p0.VX) (val_load tt_ok rfl (List.Mem.tail _ (List.Mem.head _)) rfl) rfl ?_
  replace h := bsome h; obtain ⟨⟨v8_0, v8_1⟩, x8, h⟩ := h; try dsimp only at h
  refine wl_cq Tryd.call69 rfl rfl rfl (q_pf (k_geom_Move x8) (fun _ _ => trivial)) rfl ?_
  iterate 3 refine wl_pure tt_ok rfl rfl ?_
  refine wl_pure (v := .pointer (some ⟨b1, 0, none⟩)) tt_ok rfl rfl ?_
  apply wl_store tt_ok; rfl; exact (Upd.there Upd.here); rfl; rfl; rfl; rfl; rfl; rfl
  refine wl_pure (v := .pointer (some ⟨b1, 2, none⟩)) tt_ok rfl rfl ?_
  apply wl_store tt_ok; rfl; exact (Upd.there Upd.here); rfl; rfl; rfl; rfl; rfl; rfl
  refine wl_nil (wx_then (wc_seq (wc_region ?_)))
  refine wl_pure (v := .pointer (some ⟨b1, 1, none⟩)) tt_ok rfl rfl ?_
  refine wl_val (v := .int .i32 p0.Y) (val_load tt_ok rfl (List.Mem.tail _ (List.Mem.head _)) rfl) rfl ?_
  refine wl_pure (v := .pointer (some ⟨b1, 3, none⟩)) tt_ok rfl rfl ?_
  refine wl_val (v := .int .i32 p0.VY) (val_load tt_ok rfl (List.Mem.tail _ (List.Mem.head _)) rfl) rfl ?_
  replace h := bsome h; obtain ⟨⟨v18_0, v18_1⟩, x18, h⟩ := h; try dsimp only at h
  refine wl_cq Tryd.call69 rfl rfl rfl (q_pf (k_geom_Move x18) (fun _ _ => trivial)) rfl ?_
  iterate 3 refine wl_pure tt_ok rfl rfl ?_
  refine wl_pure (v := .pointer (some ⟨b1, 1, none⟩)) tt_ok rfl rfl ?_
  apply wl_store tt_ok; rfl; exact (Upd.there Upd.here); rfl; rfl; rfl; rfl; rfl; rfl
  refine wl_pure (v := .pointer (some ⟨b1, 3, none⟩)) tt_ok rfl rfl ?_
  apply wl_store tt_ok; rfl; exact (Upd.there Upd.here); rfl; rfl; rfl; rfl; rfl; rfl
  refine wl_nil (wx_then (wc_seq (wc_region ?_)))
  refine wl_val (v := .agg #[.int .i32 v8_0, .int .i32 v18_0, .int .i32 v8_1, .int .i32 v18_1, .int .u8 p0.Health, .int .u8 p0.Cool, .int .u8 p0.Face]) (val_load tt_ok rfl (List.Mem.tail _ (List.Mem.head _)) rfl) rfl ?_
  apply wl_store tt_ok; rfl; exact Upd.here; rfl; rfl; rfl; rfl; rfl; rfl
  refine wl_nil (wx_then (wc_ret ?_))
  simp only [Option.some.injEq] at h
  obtain rfl := h
  exact wx_pf tt_ok (.inl rfl) Tryd.results57 (Res.cell rfl (List.Mem.head _) rfl Res.nil) rfl

theorem k_step_box {F : Nat} {p0 : T_api_Player} {r0 : T_api_Box} (h : m_step_box F p0 = some r0) :
    Pf Tryd.prog 59 [.agg #[.int .i32 p0.X, .int .i32 p0.Y, .int .i32 p0.VX, .int .i32 p0.VY, .int .u8 p0.Health, .int .u8 p0.Cool, .int .u8 p0.Face]] (fun w => True) (.agg #[.int .i32 r0.X, .int .i32 r0.Y, .int .i32 r0.W, .int .i32 r0.H]) := by
  unfold m_step_box at h
  refine pf_of_wc Tryd.func59 rfl Tryd.ntmps59 rfl rfl (fun w0 hR => ?_)
  refine wc_seq (wc_region ?_)
  refine wl_box rfl rfl rfl (fun b1 => ?_)
  refine wl_alloc tt_ok rfl rfl (fun b2 => ?_)
  refine wl_nil (wx_then (wc_seq (wc_region ?_)))
  refine wl_pure (v := .pointer (some ⟨b1, 0, none⟩)) tt_ok rfl rfl ?_
  refine wl_val (v := .int .i32 p0.X) (val_load tt_ok rfl (List.Mem.tail _ (List.Mem.head _)) rfl) rfl ?_
  refine wl_pure (v := .pointer (some ⟨b1, 1, none⟩)) tt_ok rfl rfl ?_
  refine wl_val (v := .int .i32 p0.Y) (val_load tt_ok rfl (List.Mem.tail _ (List.Mem.head _)) rfl) rfl ?_
  refine wl_pure (v := .agg #[.int .i32 p0.X, .int .i32 p0.Y, .int .i32 (4096 : Int), .int .i32 (4096 : Int)]) tt_ok rfl rfl ?_
  apply wl_store tt_ok; rfl; exact Upd.here; rfl; rfl; rfl; rfl; rfl; rfl
  refine wl_nil (wx_then (wc_ret ?_))
  simp only [Option.some.injEq] at h
  obtain rfl := h
  exact wx_pf tt_ok (.inl rfl) Tryd.results59 (Res.cell rfl (List.Mem.head _) rfl Res.nil) rfl

theorem k_geom_of {F : Nat} {p0 : Int} {p1 : Int} {r0 : T_geom_row} (h : m_geom_of F p0 p1 = some r0) :
    Pf Tryd.prog 78 [.int .i32 p0, .int .i32 p1] (fun w => True) (.agg #[.int .i64 r0.from_, .int .i64 r0.to_]) := by
  unfold m_geom_of at h
  refine pf_of_wc Tryd.func78 rfl Tryd.ntmps78 rfl rfl (fun w0 hR => ?_)
  refine wc_seq (wc_region ?_)
  refine wl_alloc tt_ok rfl rfl (fun b4 => ?_)
  refine wl_nil (wx_then (wc_seq (wc_region ?_)))
  refine wl_pure tt_ok rfl rfl ?_
  refine wl_pure (v := .int .i64 (IntKind.wrap .i64 p0)) tt_ok rfl rfl ?_
  refine wl_pure tt_ok rfl rfl ?_
  refine wl_pure (v := .int .i64 (IntKind.wrap .i64 p0)) tt_ok rfl rfl ?_
  refine wl_pure tt_ok rfl rfl ?_
  refine wl_pure (v := .int .i32 (max (0 : Int) p1)) tt_ok rfl rfl ?_
  refine wl_pure (v := .int .i64 (IntKind.wrap .i64 (max (0 : Int) p1))) tt_ok rfl rfl ?_
  refine wl_pure (v := .int .i64 (IntKind.wrap .i64 ((IntKind.wrap .i64 p0) + (IntKind.wrap .i64 (max (0 : Int) p1))))) tt_ok rfl rfl ?_
  refine wl_pure (v := .agg #[.int .i64 (IntKind.wrap .i64 p0), .int .i64 (IntKind.wrap .i64 ((IntKind.wrap .i64 p0) + (IntKind.wrap .i64 (max (0 : Int) p1))))]) tt_ok rfl rfl ?_
  apply wl_store tt_ok; rfl; exact Upd.here; rfl; rfl; rfl; rfl; rfl; rfl
  refine wl_nil (wx_then (wc_ret ?_))
  simp only [Option.some.injEq] at h
  obtain rfl := h
  exact wx_pf tt_ok (.inl rfl) Tryd.results78 (Res.cell rfl (List.Mem.head _) rfl Res.nil) rfl

theorem k_geom_rows {F : Nat} {p0 : T_api_Box} {r0 : T_geom_row} {r1 : T_geom_row} (h : m_geom_rows F p0 = some (r0, r1)) :
    Pf Tryd.prog 75 [.agg #[.int .i32 p0.X, .int .i32 p0.Y, .int .i32 p0.W, .int .i32 p0.H]] (fun w => True) (.tuple #[.agg #[.int .i64 r0.from_, .int .i64 r0.to_], .agg #[.int .i64 r1.from_, .int .i64 r1.to_]]) := by
  unfold m_geom_rows at h
  refine pf_of_wc Tryd.func75 rfl Tryd.ntmps75 rfl rfl (fun w0 hR => ?_)
  refine wc_seq (wc_region ?_)
  refine wl_box rfl rfl rfl (fun b1 => ?_)
  refine wl_alloc tt_ok rfl rfl (fun b2 => ?_)
  refine wl_alloc tt_ok rfl rfl (fun b3 => ?_)
  refine wl_nil (wx_then (wc_seq ?_))
  refine wc_k2 (Ls := (⟨b3, [.int .i64 (0 : Int), .int .i64 (0 : Int)], 127, (0, 0)⟩ :: (⟨b2, [.int .i64 (0 : Int), .int .i64 (0 : Int)], 127, (0, 0)⟩ :: (⟨b1, [.int .i32 p0.X, .int .i32 p0.Y, .int .i32 p0.W, .int .i32 p0.H], 111, (0, 0)⟩ :: [])))) [4, 9, 10, 11] [9, 10, 11] [0, 1, 0, 4, 15, 0, 32, 0, 128, 511, 1023, 2047] [0, 1, 2, 3, 5, 6, 7, 8, 4, 9, 10, 11] (by kernel_rfl) (by kernel_rfl) (by kernel_rfl) ?_
  refine k_val (v := .pointer (some ⟨b1, 0, none⟩)) rfl rfl rfl (pSub (pCons Sel.hc (pCons Sel.hc (pCons Sel.hc pNil)))) (stepV_ok tt_ok rfl) rfl ?_
  refine k_val (v := .int .i32 p0.X) rfl rfl rfl (pSub (pCons Sel.hc (pCons Sel.hc (pCons Sel.hc pNil)))) (val_load tt_ok rfl (List.Mem.tail _ (List.Mem.tail _ (List.Mem.head _))) rfl) rfl ?_
  refine k_val (v := .pointer (some ⟨b1, 2, none⟩)) rfl rfl rfl (pSub (pCons Sel.hc (pCons Sel.hc (pCons Sel.hc pNil)))) (stepV_ok tt_ok rfl) rfl ?_
  refine k_val (v := .int .i32 p0.W) rfl rfl rfl (pSub (pCons Sel.hc (pCons Sel.hc (pCons Sel.hc pNil)))) (val_load tt_ok rfl (List.Mem.tail _ (List.Mem.tail _ (List.Mem.head _))) rfl) rfl ?_
  refine k_val (v := .pointer (some ⟨b1, 1, none⟩)) rfl rfl rfl (pSub (pCons Sel.hc (pCons Sel.hc (pCons Sel.hc pNil)))) (stepV_ok tt_ok rfl) rfl ?_
  refine k_val (v := .int .i32 p0.Y) rfl rfl rfl (pSub (pCons Sel.hc (pCons Sel.hc (pCons Sel.hc pNil)))) (val_load tt_ok rfl (List.Mem.tail _ (List.Mem.tail _ (List.Mem.head _))) rfl) rfl ?_
  refine k_val (v := .pointer (some ⟨b1, 3, none⟩)) rfl rfl rfl (pSub (pCons Sel.hc (pCons Sel.hc (pCons Sel.hc pNil)))) (stepV_ok tt_ok rfl) rfl ?_
  refine k_val (v := .int .i32 p0.H) rfl rfl rfl (pSub (pCons Sel.hc (pCons Sel.hc (pCons Sel.hc pNil)))) (val_load tt_ok rfl (List.Mem.tail _ (List.Mem.tail _ (List.Mem.head _))) rfl) rfl ?_
  replace h := bsome h; obtain ⟨v8, x8, h⟩ := h
  refine k_cq rfl rfl rfl Tryd.call78 rfl rfl rfl (q_pf (k_geom_of x8) (fun _ _ => trivial)) rfl (pSub (pCons Sel.hc (pCons Sel.hc (pCons Sel.hc pNil)))) ?_
  replace h := bsome h; obtain ⟨v13, x13, h⟩ := h
  refine k_cq rfl rfl rfl Tryd.call78 rfl rfl rfl (q_pf (k_geom_of x13) (fun _ _ => trivial)) rfl (pSub (pCons Sel.hc (pCons Sel.hc (pCons Sel.hc pNil)))) ?_
  refine k_chg0 rfl rfl rfl (chg_store tt_ok rfl (Upd.there Upd.here) rfl rfl rfl rfl rfl rfl) (.inl rfl) ?_
  rintro _ _ rfl
  refine k_chg0 rfl rfl rfl (chg_store tt_ok rfl Upd.here rfl rfl rfl rfl rfl rfl) (.inl rfl) ?_
  rintro _ _ rfl
  refine k_end (by kernel_rfl) ?_
  refine wx_then (wc_ret ?_)
  simp only [Option.some.injEq, Prod.mk.injEq] at h
  obtain ⟨rfl, rfl⟩ := h
  exact wx_pf tt_ok (.inl rfl) Tryd.results75 (Res.cell rfl (List.Mem.tail _ (List.Mem.head _)) rfl (Res.cell rfl (List.Mem.head _) rfl Res.nil)) rfl

theorem k_geom_row_over {F : Nat} {p0 : T_geom_row} {p1 : T_geom_row} {r0 : Bool} (h : m_geom_row_over F p0 p1 = some r0) :
    Pf Tryd.prog 71 [.agg #[.int .i64 p0.from_, .int .i64 p0.to_], .agg #[.int .i64 p1.from_, .int .i64 p1.to_]] (fun w => True) (.bool r0) := by
  unfold m_geom_row_over at h
  refine pf_of_wc Tryd.func71 rfl Tryd.ntmps71 rfl rfl (fun w0 hR => ?_)
  refine wc_seq (wc_region ?_)
  refine wl_box rfl rfl rfl (fun b2 => ?_)
  refine wl_box rfl rfl rfl (fun b3 => ?_)
  refine wl_pure tt_ok rfl rfl ?_
  refine wl_nil (wx_then (wc_seq (wc_region ?_)))
  refine wl_pure (v := .pointer (some ⟨b2, 0, none⟩)) tt_ok rfl rfl ?_
  refine wl_val (v := .int .i64 p0.from_) (val_load tt_ok rfl (List.Mem.tail _ (List.Mem.head _)) rfl) rfl ?_
  refine wl_pure (v := .pointer (some ⟨b3, 0, none⟩)) tt_ok rfl rfl ?_
  refine wl_val (v := .int .i64 p1.from_) (val_load tt_ok rfl (List.Mem.head _) rfl) rfl ?_
  refine wl_pure (v := .int .i64 (max p0.from_ p1.from_)) tt_ok rfl rfl ?_
  refine wl_pure (v := .pointer (some ⟨b2, 1, none⟩)) tt_ok rfl rfl ?_
  refine wl_val (v := .int .i64 p0.to_) (val_load tt_ok rfl (List.Mem.tail _ (List.Mem.head _)) rfl) rfl ?_
  refine wl_pure (v := .pointer (some ⟨b3, 1, none⟩)) tt_ok rfl rfl ?_
  refine wl_val (v := .int .i64 p1.to_) (val_load tt_ok rfl (List.Mem.head _) rfl) rfl ?_
  refine wl_pure (v := .int .i64 (min p0.to_ p1.to_)) tt_ok rfl rfl ?_
  refine wl_pure (v := .bool (decide ((max p0.from_ p1.from_) < (min p0.to_ p1.to_)))) tt_ok rfl rfl ?_
  refine wl_pure tt_ok rfl rfl ?_
  refine wl_nil (wx_then (wc_ret ?_))
  simp only [Option.some.injEq] at h
  obtain rfl := h
  exact wx_pf tt_ok (.inl rfl) Tryd.results71 (Res.tmp rfl Res.nil) rfl

theorem k_geom_both_f2_geom_row_over {F : Nat} {p0 : T_api_Box} {p1 : T_api_Box} {r0 : Bool} (h : m_geom_both_f2_geom_row_over F p0 p1 = some r0) :
    Pf Tryd.prog 70 [.agg #[.int .i32 p0.X, .int .i32 p0.Y, .int .i32 p0.W, .int .i32 p0.H], .agg #[.int .i32 p1.X, .int .i32 p1.Y, .int .i32 p1.W, .int .i32 p1.H], .func (.func 71) #[] #[]] (fun w => True) (.bool r0) := by
  unfold m_geom_both_f2_geom_row_over at h
  refine pf_of_wc Tryd.func70 rfl Tryd.ntmps70 rfl rfl (fun w0 hR => ?_)
  refine wc_seq (wc_region ?_)
  refine wl_box rfl rfl rfl (fun b3 => ?_)
  refine wl_box rfl rfl rfl (fun b4 => ?_)
  refine wl_pure tt_ok rfl rfl ?_
  refine wl_nil (wx_then (wc_seq (wc_region ?_)))
  refine wl_val (v := .agg #[.int .i32 p0.X, .int .i32 p0.Y, .int .i32 p0.W, .int .i32 p0.H]) (val_load tt_ok rfl (List.Mem.tail _ (List.Mem.head _)) rfl) rfl ?_
  replace h := bsome h; obtain ⟨⟨v13_0, v13_1⟩, x13, h⟩ := h; try dsimp only at h
  refine wl_cq Tryd.call75 rfl rfl rfl (q_pf (k_geom_rows x13) (fun _ _ => trivial)) rfl ?_
  iterate 3 refine wl_pure tt_ok rfl rfl ?_
  refine wl_alloc tt_ok rfl rfl (fun b7 => ?_)
  refine wl_alloc tt_ok rfl rfl (fun b8 => ?_)
  apply wl_store tt_ok; rfl; exact (Upd.there Upd.here); rfl; rfl; rfl; rfl; rfl; rfl
  apply wl_store tt_ok; rfl; exact Upd.here; rfl; rfl; rfl; rfl; rfl; rfl
  refine wl_nil (wx_then (wc_seq (wc_region ?_)))
  refine wl_val (v := .agg #[.int .i32 p1.X, .int .i32 p1.Y, .int .i32 p1.W, .int .i32 p1.H]) (val_load tt_ok rfl (List.Mem.tail _ (List.Mem.tail _ (List.Mem.head _))) rfl) rfl ?_
  replace h := bsome h; obtain ⟨⟨v18_0, v18_1⟩, x18, h⟩ := h; try dsimp only at h
  refine wl_cq Tryd.call75 rfl rfl rfl (q_pf (k_geom_rows x18) (fun _ _ => trivial)) rfl ?_
  iterate 3 refine wl_pure tt_ok rfl rfl ?_
  refine wl_alloc tt_ok rfl rfl (fun b9 => ?_)
  refine wl_alloc tt_ok rfl rfl (fun b10 => ?_)
  apply wl_store tt_ok; rfl; exact (Upd.there Upd.here); rfl; rfl; rfl; rfl; rfl; rfl
  apply wl_store tt_ok; rfl; exact Upd.here; rfl; rfl; rfl; rfl; rfl; rfl
  refine wl_nil (wx_then (wc_seq (wc_region ?_)))
  refine wl_pure tt_ok rfl rfl ?_
  refine wl_val (v := .agg #[.int .i64 v13_0.from_, .int .i64 v13_0.to_]) (val_load tt_ok rfl (List.Mem.tail _ (List.Mem.tail _ (List.Mem.tail _ (List.Mem.head _)))) rfl) rfl ?_
  refine wl_val (v := .agg #[.int .i64 v18_0.from_, .int .i64 v18_0.to_]) (val_load tt_ok rfl (List.Mem.tail _ (List.Mem.head _)) rfl) rfl ?_
  replace h := bsome h; obtain ⟨v24, x24, h⟩ := h
  refine wl_cq Tryd.call71 rfl rfl rfl (q_pf (k_geom_row_over x24) (fun _ _ => trivial)) rfl ?_
  refine wl_pure tt_ok rfl rfl ?_
  replace h := bsome h; obtain ⟨v30, h, hg30⟩ := h
  refine wl_split (t := 25) rfl (fun hc => ?_) (fun hc => ?_)
  · replace h := ct hc h
    refine wl_run rfl ?_
    refine wl_pure tt_ok rfl rfl ?_
    refine wl_run rfl ?_
    refine wl_val (v := .agg #[.int .i64 v13_1.from_, .int .i64 v13_1.to_]) (val_load tt_ok rfl (List.Mem.tail _ (List.Mem.tail _ (List.Mem.head _))) rfl) rfl ?_
    refine wl_run rfl ?_
    refine wl_val (v := .agg #[.int .i64 v18_1.from_, .int .i64 v18_1.to_]) (val_load tt_ok rfl (List.Mem.head _) rfl) rfl ?_
    replace h := bsome h; obtain ⟨v29, x29, h⟩ := h
    refine wl_run rfl ?_
    refine wl_cq Tryd.call71 rfl rfl rfl (q_pf (k_geom_row_over x29) (fun _ _ => trivial)) rfl ?_
    simp only [Option.some.injEq, Prod.mk.injEq] at h
    obtain rfl := h
    have h := hg30; clear hg30
    refine wl_pure (v := .bool v29) tt_ok rfl rfl ?_
    refine wl_pure tt_ok rfl rfl ?_
    refine wl_nil (wx_then (wc_ret ?_))
    simp only [Option.some.injEq] at h
    obtain rfl := h
    exact wx_pf tt_ok (.inl rfl) Tryd.results70 (Res.tmp rfl Res.nil) rfl
  replace h := cf hc h
  refine wl_skip rfl rfl ?_
  refine wl_skip rfl rfl ?_
  refine wl_skip rfl rfl ?_
  refine wl_skip rfl rfl ?_
  simp only [Option.some.injEq, Prod.mk.injEq] at h
  obtain rfl := h
  have h := hg30; clear hg30
  refine wl_pure (v := .bool false) tt_ok rfl rfl ?_
  refine wl_pure tt_ok rfl rfl ?_
  refine wl_nil (wx_then (wc_ret ?_))
  simp only [Option.some.injEq] at h
  obtain rfl := h
  exact wx_pf tt_ok (.inl rfl) Tryd.results70 (Res.tmp rfl Res.nil) rfl

theorem k_geom_Over {F : Nat} {p0 : T_api_Box} {p1 : T_api_Box} {r0 : Bool} (h : m_geom_Over F p0 p1 = some r0) :
    Pf Tryd.prog 58 [.agg #[.int .i32 p0.X, .int .i32 p0.Y, .int .i32 p0.W, .int .i32 p0.H], .agg #[.int .i32 p1.X, .int .i32 p1.Y, .int .i32 p1.W, .int .i32 p1.H]] (fun w => True) (.bool r0) := by
  unfold m_geom_Over at h
  refine pf_of_wc Tryd.func58 rfl Tryd.ntmps58 rfl rfl (fun w0 hR => ?_)
  refine wc_seq (wc_region ?_)
  refine wl_box rfl rfl rfl (fun b2 => ?_)
  refine wl_box rfl rfl rfl (fun b3 => ?_)
  refine wl_pure tt_ok rfl rfl ?_
  refine wl_nil (wx_then (wc_seq (wc_region ?_)))
  refine wl_val (v := .agg #[.int .i32 p0.X, .int .i32 p0.Y, .int .i32 p0.W, .int .i32 p0.H]) (val_load tt_ok rfl (List.Mem.tail _ (List.Mem.head _)) rfl) rfl ?_
  refine wl_val (v := .agg #[.int .i32 p1.X, .int .i32 p1.Y, .int .i32 p1.W, .int .i32 p1.H]) (val_load tt_ok rfl (List.Mem.head _) rfl) rfl ?_
  replace h := bsome h; obtain ⟨v7, x7, h⟩ := h
  refine wl_cq Tryd.call70 rfl rfl rfl (q_pf (k_geom_both_f2_geom_row_over x7) (fun _ _ => trivial)) rfl ?_
  refine wl_pure tt_ok rfl rfl ?_
  refine wl_nil (wx_then (wc_ret ?_))
  simp only [Option.some.injEq] at h
  obtain rfl := h
  exact wx_pf tt_ok (.inl rfl) Tryd.results58 (Res.tmp rfl Res.nil) rfl

theorem k_step_stopped {F : Nat} {p0 : T_api_Player} {r0 : T_api_Player} (h : m_step_stopped F p0 = some r0) :
    Pf Tryd.prog 60 [.agg #[.int .i32 p0.X, .int .i32 p0.Y, .int .i32 p0.VX, .int .i32 p0.VY, .int .u8 p0.Health, .int .u8 p0.Cool, .int .u8 p0.Face]] (fun w => True) (.agg #[.int .i32 r0.X, .int .i32 r0.Y, .int .i32 r0.VX, .int .i32 r0.VY, .int .u8 r0.Health, .int .u8 r0.Cool, .int .u8 r0.Face]) := by
  unfold m_step_stopped at h
  refine pf_of_wc Tryd.func60 rfl Tryd.ntmps60 rfl rfl (fun w0 hR => ?_)
  refine wc_seq (wc_region ?_)
  refine wl_box rfl rfl rfl (fun b1 => ?_)
  refine wl_alloc tt_ok rfl rfl (fun b2 => ?_)
  refine wl_nil (wx_then (wc_seq (wc_region ?_)))
  refine wl_pure (v := .pointer (some ⟨b1, 2, none⟩)) tt_ok rfl rfl ?_
  apply wl_store tt_ok; rfl; exact (Upd.there Upd.here); rfl; rfl; rfl; rfl; rfl; rfl
  refine wl_pure (v := .pointer (some ⟨b1, 3, none⟩)) tt_ok rfl rfl ?_
  apply wl_store tt_ok; rfl; exact (Upd.there Upd.here); rfl; rfl; rfl; rfl; rfl; rfl
  refine wl_nil (wx_then (wc_seq (wc_region ?_)))
  refine wl_val (v := .agg #[.int .i32 p0.X, .int .i32 p0.Y, .int .i32 (0 : Int), .int .i32 (0 : Int), .int .u8 p0.Health, .int .u8 p0.Cool, .int .u8 p0.Face]) (val_load tt_ok rfl (List.Mem.tail _ (List.Mem.head _)) rfl) rfl ?_
  apply wl_store tt_ok; rfl; exact Upd.here; rfl; rfl; rfl; rfl; rfl; rfl
  refine wl_nil (wx_then (wc_ret ?_))
  simp only [Option.some.injEq] at h
  obtain rfl := h
  exact wx_pf tt_ok (.inl rfl) Tryd.results60 (Res.cell rfl (List.Mem.head _) rfl Res.nil) rfl

theorem k_geom_row_inside {F : Nat} {p0 : T_geom_row} {p1 : T_geom_row} {r0 : Bool} (h : m_geom_row_inside F p0 p1 = some r0) :
    Pf Tryd.prog 76 [.agg #[.int .i64 p0.from_, .int .i64 p0.to_], .agg #[.int .i64 p1.from_, .int .i64 p1.to_]] (fun w => True) (.bool r0) := by
  unfold m_geom_row_inside at h
  refine pf_of_wc Tryd.func76 rfl Tryd.ntmps76 rfl rfl (fun w0 hR => ?_)
  refine wc_seq (wc_region ?_)
  refine wl_box rfl rfl rfl (fun b2 => ?_)
  refine wl_box rfl rfl rfl (fun b3 => ?_)
  refine wl_pure tt_ok rfl rfl ?_
  refine wl_nil (wx_then (wc_seq (wc_region ?_)))
  refine wl_pure (v := .pointer (some ⟨b2, 0, none⟩)) tt_ok rfl rfl ?_
  refine wl_val (v := .int .i64 p0.from_) (val_load tt_ok rfl (List.Mem.tail _ (List.Mem.head _)) rfl) rfl ?_
  refine wl_pure (v := .pointer (some ⟨b2, 1, none⟩)) tt_ok rfl rfl ?_
  refine wl_val (v := .int .i64 p0.to_) (val_load tt_ok rfl (List.Mem.tail _ (List.Mem.head _)) rfl) rfl ?_
  refine wl_pure (v := .bool (decide (p0.from_ < p0.to_))) tt_ok rfl rfl ?_
  refine wl_pure tt_ok rfl rfl ?_
  replace h := bsome h; obtain ⟨v16, h, hg16⟩ := h
  refine wl_split (t := 10) rfl (fun hc => ?_) (fun hc => ?_)
  · replace h := ct hc h
    refine wl_run rfl ?_
    refine wl_pure (v := .pointer (some ⟨b2, 0, none⟩)) tt_ok rfl rfl ?_
    refine wl_run rfl ?_
    refine wl_val (v := .int .i64 p0.from_) (val_load tt_ok rfl (List.Mem.tail _ (List.Mem.head _)) rfl) rfl ?_
    refine wl_run rfl ?_
    refine wl_pure (v := .pointer (some ⟨b3, 0, none⟩)) tt_ok rfl rfl ?_
    refine wl_run rfl ?_
    refine wl_val (v := .int .i64 p1.from_) (val_load tt_ok rfl (List.Mem.head _) rfl) rfl ?_
    refine wl_run rfl ?_
    refine wl_pure (v := .bool (decide (p1.from_ ≤ p0.from_))) tt_ok rfl rfl ?_
    simp only [Option.some.injEq, Prod.mk.injEq] at h
    obtain rfl := h
    have h := hg16; clear hg16
    refine wl_pure (v := .bool (decide (p1.from_ ≤ p0.from_))) tt_ok rfl rfl ?_
    refine wl_pure tt_ok rfl rfl ?_
    replace h := bsome h; obtain ⟨v23, h, hg23⟩ := h
    refine wl_split (t := 17) rfl (fun hc => ?_) (fun hc => ?_)
    · replace h := ct hc h
      refine wl_run rfl ?_
      refine wl_pure (v := .pointer (some ⟨b2, 1, none⟩)) tt_ok rfl rfl ?_
      refine wl_run rfl ?_
      refine wl_val (v := .int .i64 p0.to_) (val_load tt_ok rfl (List.Mem.tail _ (List.Mem.head _)) rfl) rfl ?_
      refine wl_run rfl ?_
      refine wl_pure (v := .pointer (some ⟨b3, 1, none⟩)) tt_ok rfl rfl ?_
      refine wl_run rfl ?_
      refine wl_val (v := .int .i64 p1.to_) (val_load tt_ok rfl (List.Mem.head _) rfl) rfl ?_
      refine wl_run rfl ?_
      refine wl_pure (v := .bool (decide (p0.to_ ≤ p1.to_))) tt_ok rfl rfl ?_
      simp only [Option.some.injEq, Prod.mk.injEq] at h
      obtain rfl := h
      have h := hg23; clear hg23
      refine wl_pure (v := .bool (decide (p0.to_ ≤ p1.to_))) tt_ok rfl rfl ?_
      refine wl_pure tt_ok rfl rfl ?_
      refine wl_nil (wx_then (wc_ret ?_))
      simp only [Option.some.injEq] at h
      obtain rfl := h
      exact wx_pf tt_ok (.inl rfl) Tryd.results76 (Res.tmp rfl Res.nil) rfl
    replace h := cf hc h
    refine wl_skip rfl rfl ?_
    refine wl_skip rfl rfl ?_
    refine wl_skip rfl rfl ?_
    refine wl_skip rfl rfl ?_
    refine wl_skip rfl rfl ?_
    simp only [Option.some.injEq, Prod.mk.injEq] at h
    obtain rfl := h
    have h := hg23; clear hg23
    refine wl_pure (v := .bool false) tt_ok rfl rfl ?_
    refine wl_pure tt_ok rfl rfl ?_
    refine wl_nil (wx_then (wc_ret ?_))
    simp only [Option.some.injEq] at h
    obtain rfl := h
    exact wx_pf tt_ok (.inl rfl) Tryd.results76 (Res.tmp rfl Res.nil) rfl
  replace h := cf hc h
  refine wl_skip rfl rfl ?_
  refine wl_skip rfl rfl ?_
  refine wl_skip rfl rfl ?_
  refine wl_skip rfl rfl ?_
  refine wl_skip rfl rfl ?_
  simp only [Option.some.injEq, Prod.mk.injEq] at h
  obtain rfl := h
  have h := hg16; clear hg16
  refine wl_pure (v := .bool false) tt_ok rfl rfl ?_
  refine wl_pure tt_ok rfl rfl ?_
  replace h := bsome h; obtain ⟨v23, h, hg23⟩ := h
  replace h := cf rfl h
  refine wl_skip rfl rfl ?_
  refine wl_skip rfl rfl ?_
  refine wl_skip rfl rfl ?_
  refine wl_skip rfl rfl ?_
  refine wl_skip rfl rfl ?_
  simp only [Option.some.injEq, Prod.mk.injEq] at h
  obtain rfl := h
  have h := hg23; clear hg23
  refine wl_pure (v := .bool false) tt_ok rfl rfl ?_
  refine wl_pure tt_ok rfl rfl ?_
  refine wl_nil (wx_then (wc_ret ?_))
  simp only [Option.some.injEq] at h
  obtain rfl := h
  exact wx_pf tt_ok (.inl rfl) Tryd.results76 (Res.tmp rfl Res.nil) rfl

theorem k_geom_both_f2_geom_row_inside {F : Nat} {p0 : T_api_Box} {p1 : T_api_Box} {r0 : Bool} (h : m_geom_both_f2_geom_row_inside F p0 p1 = some r0) :
    Pf Tryd.prog 70 [.agg #[.int .i32 p0.X, .int .i32 p0.Y, .int .i32 p0.W, .int .i32 p0.H], .agg #[.int .i32 p1.X, .int .i32 p1.Y, .int .i32 p1.W, .int .i32 p1.H], .func (.func 76) #[] #[]] (fun w => True) (.bool r0) := by
  unfold m_geom_both_f2_geom_row_inside at h
  refine pf_of_wc Tryd.func70 rfl Tryd.ntmps70 rfl rfl (fun w0 hR => ?_)
  refine wc_seq (wc_region ?_)
  refine wl_box rfl rfl rfl (fun b3 => ?_)
  refine wl_box rfl rfl rfl (fun b4 => ?_)
  refine wl_pure tt_ok rfl rfl ?_
  refine wl_nil (wx_then (wc_seq (wc_region ?_)))
  refine wl_val (v := .agg #[.int .i32 p0.X, .int .i32 p0.Y, .int .i32 p0.W, .int .i32 p0.H]) (val_load tt_ok rfl (List.Mem.tail _ (List.Mem.head _)) rfl) rfl ?_
  replace h := bsome h; obtain ⟨⟨v13_0, v13_1⟩, x13, h⟩ := h; try dsimp only at h
  refine wl_cq Tryd.call75 rfl rfl rfl (q_pf (k_geom_rows x13) (fun _ _ => trivial)) rfl ?_
  iterate 3 refine wl_pure tt_ok rfl rfl ?_
  refine wl_alloc tt_ok rfl rfl (fun b7 => ?_)
  refine wl_alloc tt_ok rfl rfl (fun b8 => ?_)
  apply wl_store tt_ok; rfl; exact (Upd.there Upd.here); rfl; rfl; rfl; rfl; rfl; rfl
  apply wl_store tt_ok; rfl; exact Upd.here; rfl; rfl; rfl; rfl; rfl; rfl
  refine wl_nil (wx_then (wc_seq (wc_region ?_)))
  refine wl_val (v := .agg #[.int .i32 p1.X, .int .i32 p1.Y, .int .i32 p1.W, .int .i32 p1.H]) (val_load tt_ok rfl (List.Mem.tail _ (List.Mem.tail _ (List.Mem.head _))) rfl) rfl ?_
  replace h := bsome h; obtain ⟨⟨v18_0, v18_1⟩, x18, h⟩ := h; try dsimp only at h
  refine wl_cq Tryd.call75 rfl rfl rfl (q_pf (k_geom_rows x18) (fun _ _ => trivial)) rfl ?_
  iterate 3 refine wl_pure tt_ok rfl rfl ?_
  refine wl_alloc tt_ok rfl rfl (fun b9 => ?_)
  refine wl_alloc tt_ok rfl rfl (fun b10 => ?_)
  apply wl_store tt_ok; rfl; exact (Upd.there Upd.here); rfl; rfl; rfl; rfl; rfl; rfl
  apply wl_store tt_ok; rfl; exact Upd.here; rfl; rfl; rfl; rfl; rfl; rfl
  refine wl_nil (wx_then (wc_seq (wc_region ?_)))
  refine wl_pure tt_ok rfl rfl ?_
  refine wl_val (v := .agg #[.int .i64 v13_0.from_, .int .i64 v13_0.to_]) (val_load tt_ok rfl (List.Mem.tail _ (List.Mem.tail _ (List.Mem.tail _ (List.Mem.head _)))) rfl) rfl ?_
  refine wl_val (v := .agg #[.int .i64 v18_0.from_, .int .i64 v18_0.to_]) (val_load tt_ok rfl (List.Mem.tail _ (List.Mem.head _)) rfl) rfl ?_
  replace h := bsome h; obtain ⟨v24, x24, h⟩ := h
  refine wl_cq Tryd.call76 rfl rfl rfl (q_pf (k_geom_row_inside x24) (fun _ _ => trivial)) rfl ?_
  refine wl_pure tt_ok rfl rfl ?_
  replace h := bsome h; obtain ⟨v30, h, hg30⟩ := h
  refine wl_split (t := 25) rfl (fun hc => ?_) (fun hc => ?_)
  · replace h := ct hc h
    refine wl_run rfl ?_
    refine wl_pure tt_ok rfl rfl ?_
    refine wl_run rfl ?_
    refine wl_val (v := .agg #[.int .i64 v13_1.from_, .int .i64 v13_1.to_]) (val_load tt_ok rfl (List.Mem.tail _ (List.Mem.tail _ (List.Mem.head _))) rfl) rfl ?_
    refine wl_run rfl ?_
    refine wl_val (v := .agg #[.int .i64 v18_1.from_, .int .i64 v18_1.to_]) (val_load tt_ok rfl (List.Mem.head _) rfl) rfl ?_
    replace h := bsome h; obtain ⟨v29, x29, h⟩ := h
    refine wl_run rfl ?_
    refine wl_cq Tryd.call76 rfl rfl rfl (q_pf (k_geom_row_inside x29) (fun _ _ => trivial)) rfl ?_
    simp only [Option.some.injEq, Prod.mk.injEq] at h
    obtain rfl := h
    have h := hg30; clear hg30
    refine wl_pure (v := .bool v29) tt_ok rfl rfl ?_
    refine wl_pure tt_ok rfl rfl ?_
    refine wl_nil (wx_then (wc_ret ?_))
    simp only [Option.some.injEq] at h
    obtain rfl := h
    exact wx_pf tt_ok (.inl rfl) Tryd.results70 (Res.tmp rfl Res.nil) rfl
  replace h := cf hc h
  refine wl_skip rfl rfl ?_
  refine wl_skip rfl rfl ?_
  refine wl_skip rfl rfl ?_
  refine wl_skip rfl rfl ?_
  simp only [Option.some.injEq, Prod.mk.injEq] at h
  obtain rfl := h
  have h := hg30; clear hg30
  refine wl_pure (v := .bool false) tt_ok rfl rfl ?_
  refine wl_pure tt_ok rfl rfl ?_
  refine wl_nil (wx_then (wc_ret ?_))
  simp only [Option.some.injEq] at h
  obtain rfl := h
  exact wx_pf tt_ok (.inl rfl) Tryd.results70 (Res.tmp rfl Res.nil) rfl

theorem k_geom_Inside {F : Nat} {p0 : T_api_Box} {p1 : T_api_Box} {r0 : Bool} (h : m_geom_Inside F p0 p1 = some r0) :
    Pf Tryd.prog 72 [.agg #[.int .i32 p0.X, .int .i32 p0.Y, .int .i32 p0.W, .int .i32 p0.H], .agg #[.int .i32 p1.X, .int .i32 p1.Y, .int .i32 p1.W, .int .i32 p1.H]] (fun w => True) (.bool r0) := by
  unfold m_geom_Inside at h
  refine pf_of_wc Tryd.func72 rfl Tryd.ntmps72 rfl rfl (fun w0 hR => ?_)
  refine wc_seq (wc_region ?_)
  refine wl_box rfl rfl rfl (fun b2 => ?_)
  refine wl_box rfl rfl rfl (fun b3 => ?_)
  refine wl_pure tt_ok rfl rfl ?_
  refine wl_nil (wx_then (wc_seq (wc_region ?_)))
  refine wl_val (v := .agg #[.int .i32 p0.X, .int .i32 p0.Y, .int .i32 p0.W, .int .i32 p0.H]) (val_load tt_ok rfl (List.Mem.tail _ (List.Mem.head _)) rfl) rfl ?_
  refine wl_val (v := .agg #[.int .i32 p1.X, .int .i32 p1.Y, .int .i32 p1.W, .int .i32 p1.H]) (val_load tt_ok rfl (List.Mem.head _) rfl) rfl ?_
  replace h := bsome h; obtain ⟨v7, x7, h⟩ := h
  refine wl_cq Tryd.call70 rfl rfl rfl (q_pf (k_geom_both_f2_geom_row_inside x7) (fun _ _ => trivial)) rfl ?_
  refine wl_pure tt_ok rfl rfl ?_
  refine wl_nil (wx_then (wc_ret ?_))
  simp only [Option.some.injEq] at h
  obtain rfl := h
  exact wx_pf tt_ok (.inl rfl) Tryd.results72 (Res.tmp rfl Res.nil) rfl

theorem k_step_fly {F : Nat} {p0 : T_api_State} {p0b p0t : Nat} {p0a0 : Option Addr} {p0n0 : Nat} {p0c0 : Nat} {p0B0 : List Blk} {r0 : T_api_State} (p0N0 : p0n0 = p0.Shots.length) (p0V0 : Own 80 6 p0a0 p0n0 p0c0 (flat c_T_api_Shot p0.Shots) p0B0) (h : m_step_fly F p0 = some r0) :
    SpD Tryd.prog 61 [.pointer (some ⟨p0b, 0, none⟩)] (⟨p0b, [.int .u64 p0.Frame, .int .u64 p0.Seed, .int .i32 p0.Players.1.X, .int .i32 p0.Players.1.Y, .int .i32 p0.Players.1.VX, .int .i32 p0.Players.1.VY, .int .u8 p0.Players.1.Health, .int .u8 p0.Players.1.Cool, .int .u8 p0.Players.1.Face, .int .i32 p0.Players.2.X, .int .i32 p0.Players.2.Y, .int .i32 p0.Players.2.VX, .int .i32 p0.Players.2.VY, .int .u8 p0.Players.2.Health, .int .u8 p0.Players.2.Cool, .int .u8 p0.Players.2.Face, .slice p0a0 p0n0 p0c0, .int .u16 p0.Score.1, .int .u16 p0.Score.2], p0t, (0, 0)⟩ :: (p0B0 ++ [])) (fun w => True) (fun v D => ∃ (r0a0 : Option Addr) (r0n0 : Nat) (r0c0 : Nat) (r0B0 : List Blk), r0n0 = r0.Shots.length ∧ Own 80 6 r0a0 r0n0 r0c0 (flat c_T_api_Shot r0.Shots) r0B0 ∧ v = .tuple #[] ∧ D = fun F => (⟨p0b, [.int .u64 r0.Frame, .int .u64 r0.Seed, .int .i32 r0.Players.1.X, .int .i32 r0.Players.1.Y, .int .i32 r0.Players.1.VX, .int .i32 r0.Players.1.VY, .int .u8 r0.Players.1.Health, .int .u8 r0.Players.1.Cool, .int .u8 r0.Players.1.Face, .int .i32 r0.Players.2.X, .int .i32 r0.Players.2.Y, .int .i32 r0.Players.2.VX, .int .i32 r0.Players.2.VY, .int .u8 r0.Players.2.Health, .int .u8 r0.Players.2.Cool, .int .u8 r0.Players.2.Face, .slice r0a0 r0n0 r0c0, .int .u16 r0.Score.1, .int .u16 r0.Score.2], p0t, (0, 0)⟩ :: (r0B0 ++ F))) := by
  unfold m_step_fly at h
  refine sp_of_wc Tryd.func61 rfl Tryd.ntmps61 rfl rfl (fun w0 hR => ?_)
  refine wc_seq (wc_region ?_)
  refine wl_pure (v := .agg #[.int .i32 (0 : Int), .int .i32 (0 : Int), .int .i32 (65536 : Int), .int .i32 (32768 : Int)]) tt_ok rfl rfl ?_
  refine wl_alloc tt_ok rfl rfl (fun b2 => ?_)
  apply wl_store tt_ok; rfl; exact Upd.here; rfl; rfl; rfl; rfl; rfl; rfl
  refine wl_nil (wx_then (wc_seq (wc_region ?_)))
  refine wl_pure tt_ok rfl rfl ?_
  refine wl_nil (wx_then (wc_seq (wc_seq (wc_region ?_))))
  iterate 2 refine wl_pure tt_ok rfl rfl ?_
  refine wl_pure (v := .pointer (some ⟨p0b, 16, none⟩)) tt_ok rfl rfl ?_
  refine wl_val (v := .slice p0a0 p0n0 p0c0) (val_load tt_ok rfl (List.Mem.tail _ (List.Mem.head _)) rfl) rfl ?_
  refine wl_val (v := .int .i64 (p0.Shots.length : Int)) (val_len tt_ok rfl rfl p0N0) rfl ?_
  refine wl_pure tt_ok rfl rfl ?_
  refine wl_nil (wx_then (wc_block ?_))
  replace h := bsome h; obtain ⟨⟨l9_3, l9_p0_f2, l9_p0_f4⟩, h, hl9⟩ := h; try dsimp only at hl9
  refine wc_loop (fun m E L => ∃ (j9_3 : (List T_api_Shot)) (j9_14 : Int) (j9_p0_f2 : (T_api_Player × T_api_Player)) (j9_p0_f4 : (Int × Int)) (j9_3a0 : Option Addr) (j9_3n0 : Nat) (j9_3c0 : Nat) (j9_3B0 : List Blk), m_step_fly_L8 F p0 m j9_3 j9_14 j9_p0_f2 j9_p0_f4 = some (l9_3, l9_p0_f2, l9_p0_f4) ∧ j9_3n0 = j9_3.length ∧ Own 80 6 j9_3a0 j9_3n0 j9_3c0 (flat c_T_api_Shot j9_3) j9_3B0 ∧ E = [(0, .pointer (some ⟨p0b, 0, none⟩)), (2, .pointer (some ⟨b2, 0, none⟩)), (3, .slice j9_3a0 j9_3n0 j9_3c0), (12, .slice p0a0 p0n0 p0c0), (13, .int .i64 (p0.Shots.length : Int)), (14, .int .i64 j9_14)] ∧ L = (⟨p0b, [.int .u64 p0.Frame, .int .u64 p0.Seed, .int .i32 j9_p0_f2.1.X, .int .i32 j9_p0_f2.1.Y, .int .i32 j9_p0_f2.1.VX, .int .i32 j9_p0_f2.1.VY, .int .u8 j9_p0_f2.1.Health, .int .u8 j9_p0_f2.1.Cool, .int .u8 j9_p0_f2.1.Face, .int .i32 j9_p0_f2.2.X, .int .i32 j9_p0_f2.2.Y, .int .i32 j9_p0_f2.2.VX, .int .i32 j9_p0_f2.2.VY, .int .u8 j9_p0_f2.2.Health, .int .u8 j9_p0_f2.2.Cool, .int .u8 j9_p0_f2.2.Face, .slice p0a0 p0n0 p0c0, .int .u16 j9_p0_f4.1, .int .u16 j9_p0_f4.2], p0t, (0, 0)⟩ :: (⟨b2, [.int .i32 (0 : Int), .int .i32 (0 : Int), .int .i32 (65536 : Int), .int .i32 (32768 : Int)], 111, (0, 0)⟩ :: (p0B0 ++ (j9_3B0 ++ []))))) F ⟨([] : List T_api_Shot), (0 : Int), p0.Players, p0.Score, none, 0, 0, [], h, rfl, Own.zero, rfl, rfl⟩ (agree_cons rfl (agree_cons rfl (agree_cons rfl (agree_cons rfl (agree_cons rfl (agree_cons rfl agree_nil)))))) (pSub (pCons (Sel.sc Sel.hc) (pCons Sel.hc (pApp Sel.ha (pNo pNil))))) ?_
  clear h
  rintro m9 _ _ ⟨j9_3, j9_14, j9_p0_f2, j9_p0_f4, j9_3a0, j9_3n0, j9_3c0, j9_3B0, h, j9_3N0, j9_3V0, rfl, rfl⟩
  rcases m9 with _ | m9
  · rw [m_step_fly_L8.eq_1] at h; cases h
  rw [m_step_fly_L8.eq_2] at h
  refine wc_seq (wc_region ?_)
  refine wl_pure (v := .bool (decide (j9_14 < (p0.Shots.length : Int)))) tt_ok rfl rfl ?_
  refine wl_nil (wx_then (wc_seq ?_))
  refine wc_cond rfl (fun hc => ?_) (fun hc => ?_)
  · replace h := ct hc h
    refine wc_skip (wx_then (wc_seq (wc_block (wc_seq (wc_region ?_)))))
    replace h := bsome h; obtain ⟨v16, x16, h⟩ := h
    refine wl_val (v := .pointer (some ((adOf p0a0).add (j9_14.toNat * 6 + 0)))) (val_ix (enc := c_T_api_Shot) tt_ok rfl rfl rfl rfl p0N0 (Rds.of_vec p0V0) c_T_api_Shot_len rfl x16) rfl ?_
    refine wl_val (v := .agg #[.int .i32 v16.X, .int .i32 v16.Y, .int .i32 v16.VX, .int .i32 v16.VY, .int .u8 v16.Owner, .int .u8 v16.Life]) (val_le (enc := c_T_api_Shot) (xs := p0.Shots) tt_ok rfl (Rds.of_vec p0V0) ⟨_, (Sel.sc (Sel.sc Sel.ha))⟩ c_T_api_Shot_len x16 rfl) rfl ?_
    refine wl_alloc tt_ok rfl rfl (fun b5 => ?_)
    apply wl_store tt_ok; rfl; exact Upd.here; rfl; rfl; rfl; rfl; rfl; rfl
    refine wl_nil (wx_then (wc_seq (wc_region ?_)))
    refine wl_pure (v := .pointer (some ⟨b5, 0, none⟩)) tt_ok rfl rfl ?_
    refine wl_val (v := .int .i32 v16.X) (val_load tt_ok rfl (List.Mem.head _) rfl) rfl ?_
    refine wl_pure (v := .pointer (some ⟨b5, 2, none⟩)) tt_ok rfl rfl ?_
    refine wl_val (v := .int .i32 v16.VX) (val_load tt_ok rfl (List.Mem.head _) rfl) rfl ?_
    refine wl_pure (v := .int .i32 (IntKind.wrap .i32 (v16.X + v16.VX))) tt_ok rfl rfl ?_
    refine wl_pure (v := .pointer (some ⟨b5, 1, none⟩)) tt_ok rfl rfl ?_
    refine wl_val (v := .int .i32 v16.Y) (val_load tt_ok rfl (List.Mem.head _) rfl) rfl ?_
    refine wl_pure (v := .pointer (some ⟨b5, 3, none⟩)) tt_ok rfl rfl ?_
    refine wl_val (v := .int .i32 v16.VY) (val_load tt_ok rfl (List.Mem.head _) rfl) rfl ?_
    refine wl_pure (v := .int .i32 (IntKind.wrap .i32 (v16.Y + v16.VY))) tt_ok rfl rfl ?_
    refine wl_pure (v := .pointer (some ⟨b5, 0, none⟩)) tt_ok rfl rfl ?_
    apply wl_store tt_ok; rfl; exact Upd.here; rfl; rfl; rfl; rfl; rfl; rfl
    refine wl_pure (v := .pointer (some ⟨b5, 1, none⟩)) tt_ok rfl rfl ?_
    apply wl_store tt_ok; rfl; exact Upd.here; rfl; rfl; rfl; rfl; rfl; rfl
    refine wl_nil (wx_then (wc_seq (wc_region ?_)))
    refine wl_pure (v := .pointer (some ⟨b5, 5, none⟩)) tt_ok rfl rfl ?_
    refine wl_val (v := .int .u8 v16.Life) (val_load tt_ok rfl (List.Mem.head _) rfl) rfl ?_
    refine wl_pure (v := .int .u8 (IntKind.wrap .u8 (v16.Life - (1 : Int)))) tt_ok rfl rfl ?_
    refine wl_pure (v := .pointer (some ⟨b5, 5, none⟩)) tt_ok rfl rfl ?_
    apply wl_store tt_ok; rfl; exact Upd.here; rfl; rfl; rfl; rfl; rfl; rfl
    refine wl_nil (wx_then (wc_seq (wc_region ?_)))
    refine wl_pure (v := .pointer (some ⟨b5, 0, none⟩)) tt_ok rfl rfl ?_
    refine wl_val (v := .int .i32 (IntKind.wrap .i32 (v16.X + v16.VX))) (val_load tt_ok rfl (List.Mem.head _) rfl) rfl ?_
    refine wl_pure (v := .pointer (some ⟨b5, 1, none⟩)) tt_ok rfl rfl ?_
    refine wl_val (v := .int .i32 (IntKind.wrap .i32 (v16.Y + v16.VY))) (val_load tt_ok rfl (List.Mem.head _) rfl) rfl ?_
    refine wl_pure (v := .agg #[.int .i32 (IntKind.wrap .i32 (v16.X + v16.VX)), .int .i32 (IntKind.wrap .i32 (v16.Y + v16.VY)), .int .i32 (512 : Int), .int .i32 (512 : Int)]) tt_ok rfl rfl ?_
    refine wl_alloc tt_ok rfl rfl (fun b6 => ?_)
    apply wl_store tt_ok; rfl; exact Upd.here; rfl; rfl; rfl; rfl; rfl; rfl
    refine wl_nil (wx_then (wc_seq ?_))
    refine wc_quiet (by kernel_rfl) (by kernel_rfl) ?_
    refine wq_pure tt_ok rfl rfl ?_
    refine wq_pure (v := .pointer (some ⟨b5, 4, none⟩)) tt_ok rfl rfl ?_
    refine wq_val (v := .int .u8 v16.Owner) (val_load tt_ok rfl (List.Mem.tail _ (List.Mem.head _)) rfl) rfl ?_
    refine wq_pure (v := .int .u8 (IntKind.wrap .u8 ((1 : Int) - v16.Owner))) tt_ok rfl rfl ?_
    refine wq_pure tt_ok rfl rfl ?_
    refine wq_pure (v := .pointer (some ⟨p0b, 2, none⟩)) tt_ok rfl rfl ?_
    rcases Bool.eq_false_or_eq_true ((IntKind.wrap .u8 ((1 : Int) - v16.Owner)) == (0 : Int)) with hx450 | hx450
    · replace h := ct hx450 h
      refine wq_val (v := .pointer (some ⟨p0b, 2, none⟩)) (val_ia (j := 0) tt_ok rfl rfl rfl rfl (by simpa using hx450) rfl rfl) rfl ?_
      refine wq_pure tt_ok rfl rfl ?_
      refine wq_nil ?_
      refine wx_then (wc_block (wc_seq (wc_region ?_)))
      refine wl_val (v := .agg #[.int .i32 (IntKind.wrap .i32 (v16.X + v16.VX)), .int .i32 (IntKind.wrap .i32 (v16.Y + v16.VY)), .int .i32 (512 : Int), .int .i32 (512 : Int)]) (val_load tt_ok rfl (List.Mem.head _) rfl) rfl ?_
      refine wl_val (v := .agg #[.int .i32 (0 : Int), .int .i32 (0 : Int), .int .i32 (65536 : Int), .int .i32 (32768 : Int)]) (val_load tt_ok rfl (List.Mem.tail _ (List.Mem.tail _ (List.Mem.tail _ (List.Mem.head _)))) rfl) rfl ?_
      replace h := bsome h; obtain ⟨v49, x49, h⟩ := h
      refine wl_cq Tryd.call72 rfl rfl rfl (q_pf (k_geom_Inside x49) (fun _ _ => trivial)) rfl ?_
      refine wl_pure (v := .bool (!v49)) tt_ok rfl rfl ?_
      refine wl_pure tt_ok rfl rfl ?_
      refine wl_nil (wx_then ?_)
      refine wc_cond rfl (fun hc => ?_) (fun hc => ?_)
      · replace h := ct hc h
        refine wc_skip (wx_block (wx_block (wx_then (wc_region ?_))))
        refine wl_pure (v := .int .i64 (IntKind.wrap .i64 (j9_14 + (1 : Int)))) tt_ok rfl rfl ?_
        refine wl_pure tt_ok rfl rfl ?_
        refine wl_nil ?_
        exact wx_round m9 (Nat.lt_succ_self m9) ⟨j9_3, (IntKind.wrap .i64 (j9_14 + (1 : Int))), j9_p0_f2, j9_p0_f4, j9_3a0, j9_3n0, j9_3c0, j9_3B0, h, j9_3N0, j9_3V0, rfl, rfl⟩ (agree_cons rfl (agree_cons rfl (agree_cons rfl (agree_cons rfl (agree_cons rfl (agree_cons rfl agree_nil)))))) (pSub (pCons (Sel.sc (Sel.sc Sel.hc)) (pCons (Sel.sc (Sel.sc Sel.hc)) (pApp (Sel.sc (Sel.sc Sel.ha)) (pApp (Sel.sc (Sel.sc Sel.ha)) pNil)))))
      replace h := cf hc h
      refine wc_seq ?_
      refine wc_quiet (by kernel_rfl) (by kernel_rfl) ?_
      refine wq_val (v := .agg #[.int .i32 (IntKind.wrap .i32 (v16.X + v16.VX)), .int .i32 (IntKind.wrap .i32 (v16.Y + v16.VY)), .int .i32 (512 : Int), .int .i32 (512 : Int)]) (val_load tt_ok rfl (List.Mem.head _) rfl) rfl ?_
      refine wq_pure tt_ok rfl rfl ?_
      refine wq_pure tt_ok rfl rfl ?_
      refine wq_val (v := .agg #[.int .i32 j9_p0_f2.1.X, .int .i32 j9_p0_f2.1.Y, .int .i32 j9_p0_f2.1.VX, .int .i32 j9_p0_f2.1.VY, .int .u8 j9_p0_f2.1.Health, .int .u8 j9_p0_f2.1.Cool, .int .u8 j9_p0_f2.1.Face]) (val_load tt_ok rfl (List.Mem.tail _ (List.Mem.tail _ (List.Mem.head _))) rfl) rfl ?_
      replace h := bsome h; obtain ⟨v56, x56, h⟩ := h
      refine wq_cq Tryd.call59 rfl rfl rfl (q_pf (k_step_box x56) (fun _ _ => trivial)) rfl ?_
      replace h := bsome h; obtain ⟨v57, x57, h⟩ := h
      refine wq_cq Tryd.call58 rfl rfl rfl (q_pf (k_geom_Over x57) (fun _ _ => trivial)) rfl ?_
      refine wq_pure tt_ok rfl rfl ?_
      refine wq_nil ?_
      refine wx_then ?_
      refine wc_cond rfl (fun hc => ?_) (fun hc => ?_)
      · replace h := ct hc h
        refine wc_seq ?_
        refine wc_k2 (Ls := (⟨b6, [.int .i32 (IntKind.wrap .i32 (v16.X + v16.VX)), .int .i32 (IntKind.wrap .i32 (v16.Y + v16.VY)), .int .i32 (512 : Int), .int .i32 (512 : Int)], 111, (0, 0)⟩ :: (⟨b5, [.int .i32 (IntKind.wrap .i32 (v16.X + v16.VX)), .int .i32 (IntKind.wrap .i32 (v16.Y + v16.VY)), .int .i32 v16.VX, .int .i32 v16.VY, .int .u8 v16.Owner, .int .u8 (IntKind.wrap .u8 (v16.Life - (1 : Int)))], 80, (0, 0)⟩ :: (⟨p0b, [.int .u64 p0.Frame, .int .u64 p0.Seed, .int .i32 j9_p0_f2.1.X, .int .i32 j9_p0_f2.1.Y, .int .i32 j9_p0_f2.1.VX, .int .i32 j9_p0_f2.1.VY, .int .u8 j9_p0_f2.1.Health, .int .u8 j9_p0_f2.1.Cool, .int .u8 j9_p0_f2.1.Face, .int .i32 j9_p0_f2.2.X, .int .i32 j9_p0_f2.2.Y, .int .i32 j9_p0_f2.2.VX, .int .i32 j9_p0_f2.2.VY, .int .u8 j9_p0_f2.2.Health, .int .u8 j9_p0_f2.2.Cool, .int .u8 j9_p0_f2.2.Face, .slice p0a0 p0n0 p0c0, .int .u16 j9_p0_f4.1, .int .u16 j9_p0_f4.2], p0t, (0, 0)⟩ :: (⟨b2, [.int .i32 (0 : Int), .int .i32 (0 : Int), .int .i32 (65536 : Int), .int .i32 (32768 : Int)], 111, (0, 0)⟩ :: (p0B0 ++ (j9_3B0 ++ []))))))) [12] [12] [0, 1, 3, 7, 0, 16, 48, 112, 240, 511, 1023, 2047, 4095] [0, 1, 2, 3, 4, 5, 6, 7, 8, 9, 10, 11, 12] (by kernel_rfl) (by kernel_rfl) (by kernel_rfl) ?_
        refine k_val rfl rfl rfl (pSub (pCons Sel.hc (pCons Sel.hc (pCons Sel.hc (pCons Sel.hc (pApp Sel.ha (pApp Sel.ha pNil))))))) (stepV_ok tt_ok rfl) rfl ?_
        refine k_val rfl rfl rfl (pSub (pCons Sel.hc (pCons Sel.hc (pCons Sel.hc (pCons Sel.hc (pApp Sel.ha (pApp Sel.ha pNil))))))) (stepV_ok tt_ok rfl) rfl ?_
        refine k_val (v := .pointer (some ⟨p0b, 6, none⟩)) rfl rfl rfl (pSub (pCons Sel.hc (pCons Sel.hc (pCons Sel.hc (pCons Sel.hc (pApp Sel.ha (pApp Sel.ha pNil))))))) (stepV_ok tt_ok rfl) rfl ?_
        refine k_val (v := .int .u8 j9_p0_f2.1.Health) rfl rfl rfl (pSub (pCons Sel.hc (pCons Sel.hc (pCons Sel.hc (pCons Sel.hc (pApp Sel.ha (pApp Sel.ha pNil))))))) (val_load tt_ok rfl (List.Mem.tail _ (List.Mem.tail _ (List.Mem.head _))) rfl) rfl ?_
        refine k_val rfl rfl rfl (pSub (pCons Sel.hc (pCons Sel.hc (pCons Sel.hc (pCons Sel.hc (pApp Sel.ha (pApp Sel.ha pNil))))))) (stepV_ok tt_ok rfl) rfl ?_
        refine k_val rfl rfl rfl (pSub (pCons Sel.hc (pCons Sel.hc (pCons Sel.hc (pCons Sel.hc (pApp Sel.ha (pApp Sel.ha pNil))))))) (stepV_ok tt_ok rfl) rfl ?_
        refine k_val (v := .pointer (some ⟨p0b, 6, none⟩)) rfl rfl rfl (pSub (pCons Sel.hc (pCons Sel.hc (pCons Sel.hc (pCons Sel.hc (pApp Sel.ha (pApp Sel.ha pNil))))))) (stepV_ok tt_ok rfl) rfl ?_
        refine k_val (v := .int .u8 j9_p0_f2.1.Health) rfl rfl rfl (pSub (pCons Sel.hc (pCons Sel.hc (pCons Sel.hc (pCons Sel.hc (pApp Sel.ha (pApp Sel.ha pNil))))))) (val_load tt_ok rfl (List.Mem.tail _ (List.Mem.tail _ (List.Mem.head _))) rfl) rfl ?_
        refine k_val (v := .int .u8 (min j9_p0_f2.1.Health (10 : Int))) rfl rfl rfl (pSub (pCons Sel.hc (pCons Sel.hc (pCons Sel.hc (pCons Sel.hc (pApp Sel.ha (pApp Sel.ha pNil))))))) (stepV_ok tt_ok rfl) rfl ?_
        refine k_val (v := .int .u8 (IntKind.wrap .u8 (j9_p0_f2.1.Health - (min j9_p0_f2.1.Health (10 : Int))))) rfl rfl rfl (pSub (pCons Sel.hc (pCons Sel.hc (pCons Sel.hc (pCons Sel.hc (pApp Sel.ha (pApp Sel.ha pNil))))))) (stepV_ok tt_ok rfl) rfl ?_
        refine k_val rfl rfl rfl (pSub (pCons Sel.hc (pCons Sel.hc (pCons Sel.hc (pCons Sel.hc (pApp Sel.ha (pApp Sel.ha pNil))))))) (stepV_ok tt_ok rfl) rfl ?_
        refine k_val (v := .pointer (some ⟨p0b, 6, none⟩)) rfl rfl rfl (pSub (pCons Sel.hc (pCons Sel.hc (pCons Sel.hc (pCons Sel.hc (pApp Sel.ha (pApp Sel.ha pNil))))))) (stepV_ok tt_ok rfl) rfl ?_
        refine k_chg0 rfl rfl rfl (chg_store tt_ok rfl (Upd.there (Upd.there Upd.here)) rfl rfl rfl rfl rfl rfl) (.inl rfl) ?_
        rintro _ _ rfl
        refine k_end (by kernel_rfl) ?_
        refine wx_then ?_
        refine wc_k2 (Ls := (⟨b6, [.int .i32 (IntKind.wrap .i32 (v16.X + v16.VX)), .int .i32 (IntKind.wrap .i32 (v16.Y + v16.VY)), .int .i32 (512 : Int), .int .i32 (512 : Int)], 111, (0, 0)⟩ :: (⟨b5, [.int .i32 (IntKind.wrap .i32 (v16.X + v16.VX)), .int .i32 (IntKind.wrap .i32 (v16.Y + v16.VY)), .int .i32 v16.VX, .int .i32 v16.VY, .int .u8 v16.Owner, .int .u8 (IntKind.wrap .u8 (v16.Life - (1 : Int)))], 80, (0, 0)⟩ :: (⟨p0b, [.int .u64 p0.Frame, .int .u64 p0.Seed, .int .i32 j9_p0_f2.1.X, .int .i32 j9_p0_f2.1.Y, .int .i32 j9_p0_f2.1.VX, .int .i32 j9_p0_f2.1.VY, .int .u8 (IntKind.wrap .u8 (j9_p0_f2.1.Health - (min j9_p0_f2.1.Health (10 : Int)))), .int .u8 j9_p0_f2.1.Cool, .int .u8 j9_p0_f2.1.Face, .int .i32 j9_p0_f2.2.X, .int .i32 j9_p0_f2.2.Y, .int .i32 j9_p0_f2.2.VX, .int .i32 j9_p0_f2.2.VY, .int .u8 j9_p0_f2.2.Health, .int .u8 j9_p0_f2.2.Cool, .int .u8 j9_p0_f2.2.Face, .slice p0a0 p0n0 p0c0, .int .u16 j9_p0_f4.1, .int .u16 j9_p0_f4.2], p0t, (0, 0)⟩ :: (⟨b2, [.int .i32 (0 : Int), .int .i32 (0 : Int), .int .i32 (65536 : Int), .int .i32 (32768 : Int)], 111, (0, 0)⟩ :: (p0B0 ++ (j9_3B0 ++ []))))))) [15] [15] [0, 0, 2, 0, 0, 16, 8, 72, 248, 504, 1016, 2040, 1, 4097, 16383, 32767] [0, 1, 2, 3, 4, 5, 6, 7, 8, 9, 10, 11, 12, 13, 14, 15] (by kernel_rfl) (by kernel_rfl) (by kernel_rfl) ?_
        refine k_val rfl rfl rfl (pSub (pCons Sel.hc (pCons Sel.hc (pCons Sel.hc (pCons Sel.hc (pApp Sel.ha (pApp Sel.ha pNil))))))) (stepV_ok tt_ok rfl) rfl ?_
        refine k_val (v := .pointer (some ⟨b5, 4, none⟩)) rfl rfl rfl (pSub (pCons Sel.hc (pCons Sel.hc (pCons Sel.hc (pCons Sel.hc (pApp Sel.ha (pApp Sel.ha pNil))))))) (stepV_ok tt_ok rfl) rfl ?_
        refine k_val (v := .int .u8 v16.Owner) rfl rfl rfl (pSub (pCons Sel.hc (pCons Sel.hc (pCons Sel.hc (pCons Sel.hc (pApp Sel.ha (pApp Sel.ha pNil))))))) (val_load tt_ok rfl (List.Mem.tail _ (List.Mem.head _)) rfl) rfl ?_
        refine k_val rfl rfl rfl (pSub (pCons Sel.hc (pCons Sel.hc (pCons Sel.hc (pCons Sel.hc (pApp Sel.ha (pApp Sel.ha pNil))))))) (stepV_ok tt_ok rfl) rfl ?_
        refine k_val (v := .pointer (some ⟨b5, 4, none⟩)) rfl rfl rfl (pSub (pCons Sel.hc (pCons Sel.hc (pCons Sel.hc (pCons Sel.hc (pApp Sel.ha (pApp Sel.ha pNil))))))) (stepV_ok tt_ok rfl) rfl ?_
        refine k_val (v := .int .u8 v16.Owner) rfl rfl rfl (pSub (pCons Sel.hc (pCons Sel.hc (pCons Sel.hc (pCons Sel.hc (pApp Sel.ha (pApp Sel.ha pNil))))))) (val_load tt_ok rfl (List.Mem.tail _ (List.Mem.head _)) rfl) rfl ?_
        refine k_val rfl rfl rfl (pSub (pCons Sel.hc (pCons Sel.hc (pCons Sel.hc (pCons Sel.hc (pApp Sel.ha (pApp Sel.ha pNil))))))) (stepV_ok tt_ok rfl) rfl ?_
        refine k_val (v := .pointer (some ⟨p0b, 17, none⟩)) rfl rfl rfl (pSub (pCons Sel.hc (pCons Sel.hc (pCons Sel.hc (pCons Sel.hc (pApp Sel.ha (pApp Sel.ha pNil))))))) (stepV_ok tt_ok rfl) rfl ?_
        rcases Bool.eq_false_or_eq_true (v16.Owner == (0 : Int)) with hx780 | hx780
        · replace h := ct hx780 h
          refine k_val (v := .pointer (some ⟨p0b, 17, none⟩)) rfl rfl rfl (pSub (pCons Sel.hc (pCons Sel.hc (pCons Sel.hc (pCons Sel.hc (pApp Sel.ha (pApp Sel.ha pNil))))))) (val_ia (j := 0) tt_ok rfl rfl rfl rfl (by simpa using hx780) rfl rfl) rfl ?_
          refine k_val (v := .int .u16 j9_p0_f4.1) rfl rfl rfl (pSub (pCons Sel.hc (pCons Sel.hc (pCons Sel.hc (pCons Sel.hc (pApp Sel.ha (pApp Sel.ha pNil))))))) (val_load tt_ok rfl (List.Mem.tail _ (List.Mem.tail _ (List.Mem.head _))) rfl) rfl ?_
          refine k_val (v := .int .u16 (min j9_p0_f4.1 (65534 : Int))) rfl rfl rfl (pSub (pCons Sel.hc (pCons Sel.hc (pCons Sel.hc (pCons Sel.hc (pApp Sel.ha (pApp Sel.ha pNil))))))) (stepV_ok tt_ok rfl) rfl ?_
          refine k_val (v := .int .u16 (IntKind.wrap .u16 ((min j9_p0_f4.1 (65534 : Int)) + (1 : Int)))) rfl rfl rfl (pSub (pCons Sel.hc (pCons Sel.hc (pCons Sel.hc (pCons Sel.hc (pApp Sel.ha (pApp Sel.ha pNil))))))) (stepV_ok tt_ok rfl) rfl ?_
          refine k_val rfl rfl rfl (pSub (pCons Sel.hc (pCons Sel.hc (pCons Sel.hc (pCons Sel.hc (pApp Sel.ha (pApp Sel.ha pNil))))))) (stepV_ok tt_ok rfl) rfl ?_
          refine k_val (v := .pointer (some ⟨p0b, 17, none⟩)) rfl rfl rfl (pSub (pCons Sel.hc (pCons Sel.hc (pCons Sel.hc (pCons Sel.hc (pApp Sel.ha (pApp Sel.ha pNil))))))) (stepV_ok tt_ok rfl) rfl ?_
          refine k_val (v := .pointer (some ⟨p0b, 17, none⟩)) rfl rfl rfl (pSub (pCons Sel.hc (pCons Sel.hc (pCons Sel.hc (pCons Sel.hc (pApp Sel.ha (pApp Sel.ha pNil))))))) (val_ia (j := 0) tt_ok rfl rfl rfl rfl (by simpa using hx780) rfl rfl) rfl ?_
          refine k_chg0 rfl rfl rfl (chg_store tt_ok rfl (Upd.there (Upd.there Upd.here)) rfl rfl rfl rfl rfl rfl) (.inl rfl) ?_
          rintro _ _ rfl
          refine k_end (by kernel_rfl) ?_
          refine wx_block (wx_block (wx_then (wc_region ?_)))
          refine wl_pure (v := .int .i64 (IntKind.wrap .i64 (j9_14 + (1 : Int)))) tt_ok rfl rfl ?_
          refine wl_pure tt_ok rfl rfl ?_
          refine wl_nil ?_
          exact wx_round m9 (Nat.lt_succ_self m9) ⟨j9_3, (IntKind.wrap .i64 (j9_14 + (1 : Int))), ((T_api_Player.mk j9_p0_f2.1.X j9_p0_f2.1.Y j9_p0_f2.1.VX j9_p0_f2.1.VY (IntKind.wrap .u8 (j9_p0_f2.1.Health - (min j9_p0_f2.1.Health (10 : Int)))) j9_p0_f2.1.Cool j9_p0_f2.1.Face), j9_p0_f2.2), ((IntKind.wrap .u16 ((min j9_p0_f4.1 (65534 : Int)) + (1 : Int))), j9_p0_f4.2), j9_3a0, j9_3n0, j9_3c0, j9_3B0, h, j9_3N0, j9_3V0, rfl, rfl⟩ (agree_cons rfl (agree_cons rfl (agree_cons rfl (agree_cons rfl (agree_cons rfl (agree_cons rfl agree_nil)))))) (pSub (pCons (Sel.sc (Sel.sc Sel.hc)) (pCons (Sel.sc (Sel.sc Sel.hc)) (pApp (Sel.sc (Sel.sc Sel.ha)) (pApp (Sel.sc (Sel.sc Sel.ha)) pNil)))))
        replace h := cf hx780 h
        rcases Bool.eq_false_or_eq_true (v16.Owner == (1 : Int)) with hx781 | hx781
        · replace h := ct hx781 h
          refine k_val (v := .pointer (some ⟨p0b, 18, none⟩)) rfl rfl rfl (pSub (pCons Sel.hc (pCons Sel.hc (pCons Sel.hc (pCons Sel.hc (pApp Sel.ha (pApp Sel.ha pNil))))))) (val_ia (j := 1) tt_ok rfl rfl rfl rfl (by simpa using hx781) rfl rfl) rfl ?_
          refine k_val (v := .int .u16 j9_p0_f4.2) rfl rfl rfl (pSub (pCons Sel.hc (pCons Sel.hc (pCons Sel.hc (pCons Sel.hc (pApp Sel.ha (pApp Sel.ha pNil))))))) (val_load tt_ok rfl (List.Mem.tail _ (List.Mem.tail _ (List.Mem.head _))) rfl) rfl ?_
          refine k_val (v := .int .u16 (min j9_p0_f4.2 (65534 : Int))) rfl rfl rfl (pSub (pCons Sel.hc (pCons Sel.hc (pCons Sel.hc (pCons Sel.hc (pApp Sel.ha (pApp Sel.ha pNil))))))) (stepV_ok tt_ok rfl) rfl ?_
          refine k_val (v := .int .u16 (IntKind.wrap .u16 ((min j9_p0_f4.2 (65534 : Int)) + (1 : Int)))) rfl rfl rfl (pSub (pCons Sel.hc (pCons Sel.hc (pCons Sel.hc (pCons Sel.hc (pApp Sel.ha (pApp Sel.ha pNil))))))) (stepV_ok tt_ok rfl) rfl ?_
          refine k_val rfl rfl rfl (pSub (pCons Sel.hc (pCons Sel.hc (pCons Sel.hc (pCons Sel.hc (pApp Sel.ha (pApp Sel.ha pNil))))))) (stepV_ok tt_ok rfl) rfl ?_
          refine k_val (v := .pointer (some ⟨p0b, 17, none⟩)) rfl rfl rfl (pSub (pCons Sel.hc (pCons Sel.hc (pCons Sel.hc (pCons Sel.hc (pApp Sel.ha (pApp Sel.ha pNil))))))) (stepV_ok tt_ok rfl) rfl ?_
          refine k_val (v := .pointer (some ⟨p0b, 18, none⟩)) rfl rfl rfl (pSub (pCons Sel.hc (pCons Sel.hc (pCons Sel.hc (pCons Sel.hc (pApp Sel.ha (pApp Sel.ha pNil))))))) (val_ia (j := 1) tt_ok rfl rfl rfl rfl (by simpa using hx781) rfl rfl) rfl ?_
          refine k_chg0 rfl rfl rfl (chg_store tt_ok rfl (Upd.there (Upd.there Upd.here)) rfl rfl rfl rfl rfl rfl) (.inl rfl) ?_
          rintro _ _ rfl
          refine k_end (by kernel_rfl) ?_
          refine wx_block (wx_block (wx_then (wc_region ?_)))
          refine wl_pure (v := .int .i64 (IntKind.wrap .i64 (j9_14 + (1 : Int)))) tt_ok rfl rfl ?_
          refine wl_pure tt_ok rfl rfl ?_
          refine wl_nil ?_
          exact wx_round m9 (Nat.lt_succ_self m9) ⟨j9_3, (IntKind.wrap .i64 (j9_14 + (1 : Int))), ((T_api_Player.mk j9_p0_f2.1.X j9_p0_f2.1.Y j9_p0_f2.1.VX j9_p0_f2.1.VY (IntKind.wrap .u8 (j9_p0_f2.1.Health - (min j9_p0_f2.1.Health (10 : Int)))) j9_p0_f2.1.Cool j9_p0_f2.1.Face), j9_p0_f2.2), (j9_p0_f4.1, (IntKind.wrap .u16 ((min j9_p0_f4.2 (65534 : Int)) + (1 : Int)))), j9_3a0, j9_3n0, j9_3c0, j9_3B0, h, j9_3N0, j9_3V0, rfl, rfl⟩ (agree_cons rfl (agree_cons rfl (agree_cons rfl (agree_cons rfl (agree_cons rfl (agree_cons rfl agree_nil)))))) (pSub (pCons (Sel.sc (Sel.sc Sel.hc)) (pCons (Sel.sc (Sel.sc Sel.hc)) (pApp (Sel.sc (Sel.sc Sel.ha)) (pApp (Sel.sc (Sel.sc Sel.ha)) pNil)))))
        replace h := cf hx781 h
        cases h
      replace h := cf hc h
      refine wc_seq (wc_region ?_)
      refine wl_pure (v := .pointer (some ⟨b5, 5, none⟩)) tt_ok rfl rfl ?_
      refine wl_val (v := .int .u8 (IntKind.wrap .u8 (v16.Life - (1 : Int)))) (val_load tt_ok rfl (List.Mem.tail _ (List.Mem.head _)) rfl) rfl ?_
      refine wl_pure (v := .bool (decide ((0 : Int) < (IntKind.wrap .u8 (v16.Life - (1 : Int)))))) tt_ok rfl rfl ?_
      refine wl_pure tt_ok rfl rfl ?_
      refine wl_nil (wx_then ?_)
      refine wc_cond rfl (fun hc => ?_) (fun hc => ?_)
      · replace h := ct hc h
        refine wc_region ?_
        refine wl_pure tt_ok rfl rfl ?_
        refine wl_val (v := .agg #[.int .i32 (IntKind.wrap .i32 (v16.X + v16.VX)), .int .i32 (IntKind.wrap .i32 (v16.Y + v16.VY)), .int .i32 v16.VX, .int .i32 v16.VY, .int .u8 v16.Owner, .int .u8 (IntKind.wrap .u8 (v16.Life - (1 : Int)))]) (val_load tt_ok rfl (List.Mem.tail _ (List.Mem.head _)) rfl) rfl ?_
        refine wl_chg (chg_bsv (enc := c_T_api_Shot) (xs := ([(T_api_Shot.mk (IntKind.wrap .i32 (v16.X + v16.VX)) (IntKind.wrap .i32 (v16.Y + v16.VY)) v16.VX v16.VY v16.Owner (IntKind.wrap .u8 (v16.Life - (1 : Int))))] : List T_api_Shot)) tt_ok rfl rfl rfl rfl rfl rfl rfl rfl c_T_api_Shot_len) rfl ?_
        rintro _ _ ⟨a91, n91_, c91, B91, rfl, N91, V91, rfl⟩
        replace h := bsome h; obtain ⟨v92, x92, h⟩ := h
        refine wl_chg (chg_app (enc := c_T_api_Shot) (ys := ([(T_api_Shot.mk (IntKind.wrap .i32 (v16.X + v16.VX)) (IntKind.wrap .i32 (v16.Y + v16.VY)) v16.VX v16.VY v16.Owner (IntKind.wrap .u8 (v16.Life - (1 : Int))))] : List T_api_Shot)) tt_ok rfl rfl rfl rfl rfl rfl j9_3N0 N91 j9_3V0 (Sel.sa (Sel.sc (Sel.sc (Sel.sc (Sel.sc (Sel.sa Sel.ha)))))) (Rds.of_vec V91) ⟨_, Sel.ha⟩ c_T_api_Shot_len (fun _ => rfl) rfl x92) rfl ?_
        rintro _ _ ⟨a92, n92_, c92, B92, rfl, N92, V92, rfl⟩
        refine wl_pure tt_ok rfl rfl ?_
        refine wl_nil (wx_block (wx_block (wx_then (wc_region ?_))))
        refine wl_pure (v := .int .i64 (IntKind.wrap .i64 (j9_14 + (1 : Int)))) tt_ok rfl rfl ?_
        refine wl_pure tt_ok rfl rfl ?_
        refine wl_nil ?_
        exact wx_round m9 (Nat.lt_succ_self m9) ⟨v92, (IntKind.wrap .i64 (j9_14 + (1 : Int))), j9_p0_f2, j9_p0_f4, a92, n92_, c92, B92, h, N92, V92, rfl, rfl⟩ (agree_cons rfl (agree_cons rfl (agree_cons rfl (agree_cons rfl (agree_cons rfl (agree_cons rfl agree_nil)))))) (pSub (pCons (Sel.sa (Sel.sa (Sel.sc (Sel.sc Sel.hc)))) (pCons (Sel.sa (Sel.sa (Sel.sc (Sel.sc Sel.hc)))) (pApp (Sel.sa (Sel.sa (Sel.sc (Sel.sc Sel.ha)))) (pApp Sel.ha pNil)))))
      replace h := cf hc h
      refine wc_skip (wx_block (wx_block (wx_then (wc_region ?_))))
      refine wl_pure (v := .int .i64 (IntKind.wrap .i64 (j9_14 + (1 : Int)))) tt_ok rfl rfl ?_
      refine wl_pure tt_ok rfl rfl ?_
      refine wl_nil ?_
      exact wx_round m9 (Nat.lt_succ_self m9) ⟨j9_3, (IntKind.wrap .i64 (j9_14 + (1 : Int))), j9_p0_f2, j9_p0_f4, j9_3a0, j9_3n0, j9_3c0, j9_3B0, h, j9_3N0, j9_3V0, rfl, rfl⟩ (agree_cons rfl (agree_cons rfl (agree_cons rfl (agree_cons rfl (agree_cons rfl (agree_cons rfl agree_nil)))))) (pSub (pCons (Sel.sc (Sel.sc Sel.hc)) (pCons (Sel.sc (Sel.sc Sel.hc)) (pApp (Sel.sc (Sel.sc Sel.ha)) (pApp (Sel.sc (Sel.sc Sel.ha)) pNil)))))
    replace h := cf hx450 h
    rcases Bool.eq_false_or_eq_true ((IntKind.wrap .u8 ((1 : Int) - v16.Owner)) == (1 : Int)) with hx451 | hx451
    · replace h := ct hx451 h
      refine wq_val (v := .pointer (some ⟨p0b, 9, none⟩)) (val_ia (j := 1) tt_ok rfl rfl rfl rfl (by simpa using hx451) rfl rfl) rfl ?_
      refine wq_pure tt_ok rfl rfl ?_
      refine wq_nil ?_
      refine wx_then (wc_block (wc_seq (wc_region ?_)))
      refine wl_val (v := .agg #[.int .i32 (IntKind.wrap .i32 (v16.X + v16.VX)), .int .i32 (IntKind.wrap .i32 (v16.Y + v16.VY)), .int .i32 (512 : Int), .int .i32 (512 : Int)]) (val_load tt_ok rfl (List.Mem.head _) rfl) rfl ?_
      refine wl_val (v := .agg #[.int .i32 (0 : Int), .int .i32 (0 : Int), .int .i32 (65536 : Int), .int .i32 (32768 : Int)]) (val_load tt_ok rfl (List.Mem.tail _ (List.Mem.tail _ (List.Mem.tail _ (List.Mem.head _)))) rfl) rfl ?_
      replace h := bsome h; obtain ⟨v49, x49, h⟩ := h
      refine wl_cq Tryd.call72 rfl rfl rfl (q_pf (k_geom_Inside x49) (fun _ _ => trivial)) rfl ?_
      refine wl_pure (v := .bool (!v49)) tt_ok rfl rfl ?_
      refine wl_pure tt_ok rfl rfl ?_
      refine wl_nil (wx_then ?_)
      refine wc_cond rfl (fun hc => ?_) (fun hc => ?_)
      · replace h := ct hc h
        refine wc_skip (wx_block (wx_block (wx_then (wc_region ?_))))
        refine wl_pure (v := .int .i64 (IntKind.wrap .i64 (j9_14 + (1 : Int)))) tt_ok rfl rfl ?_
        refine wl_pure tt_ok rfl rfl ?_
        refine wl_nil ?_
        exact wx_round m9 (Nat.lt_succ_self m9) ⟨j9_3, (IntKind.wrap .i64 (j9_14 + (1 : Int))), j9_p0_f2, j9_p0_f4, j9_3a0, j9_3n0, j9_3c0, j9_3B0, h, j9_3N0, j9_3V0, rfl, rfl⟩ (agree_cons rfl (agree_cons rfl (agree_cons rfl (agree_cons rfl (agree_cons rfl (agree_cons rfl agree_nil)))))) (pSub (pCons (Sel.sc (Sel.sc Sel.hc)) (pCons (Sel.sc (Sel.sc Sel.hc)) (pApp (Sel.sc (Sel.sc Sel.ha)) (pApp (Sel.sc (Sel.sc Sel.ha)) pNil)))))
      replace h := cf hc h
      refine wc_seq ?_
      refine wc_quiet (by kernel_rfl) (by kernel_rfl) ?_
      refine wq_val (v := .agg #[.int .i32 (IntKind.wrap .i32 (v16.X + v16.VX)), .int .i32 (IntKind.wrap .i32 (v16.Y + v16.VY)), .int .i32 (512 : Int), .int .i32 (512 : Int)]) (val_load tt_ok rfl (List.Mem.head _) rfl) rfl ?_
      refine wq_pure tt_ok rfl rfl ?_
      refine wq_pure tt_ok rfl rfl ?_
      refine wq_val (v := .agg #[.int .i32 j9_p0_f2.2.X, .int .i32 j9_p0_f2.2.Y, .int .i32 j9_p0_f2.2.VX, .int .i32 j9_p0_f2.2.VY, .int .u8 j9_p0_f2.2.Health, .int .u8 j9_p0_f2.2.Cool, .int .u8 j9_p0_f2.2.Face]) (val_load tt_ok rfl (List.Mem.tail _ (List.Mem.tail _ (List.Mem.head _))) rfl) rfl ?_
      replace h := bsome h; obtain ⟨v56, x56, h⟩ := h
      refine wq_cq Tryd.call59 rfl rfl rfl (q_pf (k_step_box x56) (fun _ _ => trivial)) rfl ?_
      replace h := bsome h; obtain ⟨v57, x57, h⟩ := h
      refine wq_cq Tryd.call58 rfl rfl rfl (q_pf (k_geom_Over x57) (fun _ _ => trivial)) rfl ?_
      refine wq_pure tt_ok rfl rfl ?_
      refine wq_nil ?_
      refine wx_then ?_
      refine wc_cond rfl (fun hc => ?_) (fun hc => ?_)
      · replace h := ct hc h
        refine wc_seq ?_
        refine wc_k2 (Ls := (⟨b6, [.int .i32 (IntKind.wrap .i32 (v16.X + v16.VX)), .int .i32 (IntKind.wrap .i32 (v16.Y + v16.VY)), .int .i32 (512 : Int), .int .i32 (512 : Int)], 111, (0, 0)⟩ :: (⟨b5, [.int .i32 (IntKind.wrap .i32 (v16.X + v16.VX)), .int .i32 (IntKind.wrap .i32 (v16.Y + v16.VY)), .int .i32 v16.VX, .int .i32 v16.VY, .int .u8 v16.Owner, .int .u8 (IntKind.wrap .u8 (v16.Life - (1 : Int)))], 80, (0, 0)⟩ :: (⟨p0b, [.int .u64 p0.Frame, .int .u64 p0.Seed, .int .i32 j9_p0_f2.1.X, .int .i32 j9_p0_f2.1.Y, .int .i32 j9_p0_f2.1.VX, .int .i32 j9_p0_f2.1.VY, .int .u8 j9_p0_f2.1.Health, .int .u8 j9_p0_f2.1.Cool, .int .u8 j9_p0_f2.1.Face, .int .i32 j9_p0_f2.2.X, .int .i32 j9_p0_f2.2.Y, .int .i32 j9_p0_f2.2.VX, .int .i32 j9_p0_f2.2.VY, .int .u8 j9_p0_f2.2.Health, .int .u8 j9_p0_f2.2.Cool, .int .u8 j9_p0_f2.2.Face, .slice p0a0 p0n0 p0c0, .int .u16 j9_p0_f4.1, .int .u16 j9_p0_f4.2], p0t, (0, 0)⟩ :: (⟨b2, [.int .i32 (0 : Int), .int .i32 (0 : Int), .int .i32 (65536 : Int), .int .i32 (32768 : Int)], 111, (0, 0)⟩ :: (p0B0 ++ (j9_3B0 ++ []))))))) [12] [12] [0, 1, 3, 7, 0, 16, 48, 112, 240, 511, 1023, 2047, 4095] [0, 1, 2, 3, 4, 5, 6, 7, 8, 9, 10, 11, 12] (by kernel_rfl) (by kernel_rfl) (by kernel_rfl) ?_
        refine k_val rfl rfl rfl (pSub (pCons Sel.hc (pCons Sel.hc (pCons Sel.hc (pCons Sel.hc (pApp Sel.ha (pApp Sel.ha pNil))))))) (stepV_ok tt_ok rfl) rfl ?_
        refine k_val rfl rfl rfl (pSub (pCons Sel.hc (pCons Sel.hc (pCons Sel.hc (pCons Sel.hc (pApp Sel.ha (pApp Sel.ha pNil))))))) (stepV_ok tt_ok rfl) rfl ?_
        refine k_val (v := .pointer (some ⟨p0b, 13, none⟩)) rfl rfl rfl (pSub (pCons Sel.hc (pCons Sel.hc (pCons Sel.hc (pCons Sel.hc (pApp Sel.ha (pApp Sel.ha pNil))))))) (stepV_ok tt_ok rfl) rfl ?_
        refine k_val (v := .int .u8 j9_p0_f2.2.Health) rfl rfl rfl (pSub (pCons Sel.hc (pCons Sel.hc (pCons Sel.hc (pCons Sel.hc (pApp Sel.ha (pApp Sel.ha pNil))))))) (val_load tt_ok rfl (List.Mem.tail _ (List.Mem.tail _ (List.Mem.head _))) rfl) rfl ?_
        refine k_val rfl rfl rfl (pSub (pCons Sel.hc (pCons Sel.hc (pCons Sel.hc (pCons Sel.hc (pApp Sel.ha (pApp Sel.ha pNil))))))) (stepV_ok tt_ok rfl) rfl ?_
        refine k_val rfl rfl rfl (pSub (pCons Sel.hc (pCons Sel.hc (pCons Sel.hc (pCons Sel.hc (pApp Sel.ha (pApp Sel.ha pNil))))))) (stepV_ok tt_ok rfl) rfl ?_
        refine k_val (v := .pointer (some ⟨p0b, 13, none⟩)) rfl rfl rfl (pSub (pCons Sel.hc (pCons Sel.hc (pCons Sel.hc (pCons Sel.hc (pApp Sel.ha (pApp Sel.ha pNil))))))) (stepV_ok tt_ok rfl) rfl ?_
        refine k_val (v := .int .u8 j9_p0_f2.2.Health) rfl rfl rfl (pSub (pCons Sel.hc (pCons Sel.hc (pCons Sel.hc (pCons Sel.hc (pApp Sel.ha (pApp Sel.ha pNil))))))) (val_load tt_ok rfl (List.Mem.tail _ (List.Mem.tail _ (List.Mem.head _))) rfl) rfl ?_
        refine k_val (v := .int .u8 (min j9_p0_f2.2.Health (10 : Int))) rfl rfl rfl (pSub (pCons Sel.hc (pCons Sel.hc (pCons Sel.hc (pCons Sel.hc (pApp Sel.ha (pApp Sel.ha pNil))))))) (stepV_ok tt_ok rfl) rfl ?_
        refine k_val (v := .int .u8 (IntKind.wrap .u8 (j9_p0_f2.2.Health - (min j9_p0_f2.2.Health (10 : Int))))) rfl rfl rfl (pSub (pCons Sel.hc (pCons Sel.hc (pCons Sel.hc (pCons Sel.hc (pApp Sel.ha (pApp Sel.ha pNil))))))) (stepV_ok tt_ok rfl) rfl ?_
        refine k_val rfl rfl rfl (pSub (pCons Sel.hc (pCons Sel.hc (pCons Sel.hc (pCons Sel.hc (pApp Sel.ha (pApp Sel.ha pNil))))))) (stepV_ok tt_ok rfl) rfl ?_
        refine k_val (v := .pointer (some ⟨p0b, 13, none⟩)) rfl rfl rfl (pSub (pCons Sel.hc (pCons Sel.hc (pCons Sel.hc (pCons Sel.hc (pApp Sel.ha (pApp Sel.ha pNil))))))) (stepV_ok tt_ok rfl) rfl ?_
        refine k_chg0 rfl rfl rfl (chg_store tt_ok rfl (Upd.there (Upd.there Upd.here)) rfl rfl rfl rfl rfl rfl) (.inl rfl) ?_
        rintro _ _ rfl
        refine k_end (by kernel_rfl) ?_
        refine wx_then ?_
        refine wc_k2 (Ls := (⟨b6, [.int .i32 (IntKind.wrap .i32 (v16.X + v16.VX)), .int .i32 (IntKind.wrap .i32 (v16.Y + v16.VY)), .int .i32 (512 : Int), .int .i32 (512 : Int)], 111, (0, 0)⟩ :: (⟨b5, [.int .i32 (IntKind.wrap .i32 (v16.X + v16.VX)), .int .i32 (IntKind.wrap .i32 (v16.Y + v16.VY)), .int .i32 v16.VX, .int .i32 v16.VY, .int .u8 v16.Owner, .int .u8 (IntKind.wrap .u8 (v16.Life - (1 : Int)))], 80, (0, 0)⟩ :: (⟨p0b, [.int .u64 p0.Frame, .int .u64 p0.Seed, .int .i32 j9_p0_f2.1.X, .int .i32 j9_p0_f2.1.Y, .int .i32 j9_p0_f2.1.VX, .int .i32 j9_p0_f2.1.VY, .int .u8 j9_p0_f2.1.Health, .int .u8 j9_p0_f2.1.Cool, .int .u8 j9_p0_f2.1.Face, .int .i32 j9_p0_f2.2.X, .int .i32 j9_p0_f2.2.Y, .int .i32 j9_p0_f2.2.VX, .int .i32 j9_p0_f2.2.VY, .int .u8 (IntKind.wrap .u8 (j9_p0_f2.2.Health - (min j9_p0_f2.2.Health (10 : Int)))), .int .u8 j9_p0_f2.2.Cool, .int .u8 j9_p0_f2.2.Face, .slice p0a0 p0n0 p0c0, .int .u16 j9_p0_f4.1, .int .u16 j9_p0_f4.2], p0t, (0, 0)⟩ :: (⟨b2, [.int .i32 (0 : Int), .int .i32 (0 : Int), .int .i32 (65536 : Int), .int .i32 (32768 : Int)], 111, (0, 0)⟩ :: (p0B0 ++ (j9_3B0 ++ []))))))) [15] [15] [0, 0, 2, 0, 0, 16, 8, 72, 248, 504, 1016, 2040, 1, 4097, 16383, 32767] [0, 1, 2, 3, 4, 5, 6, 7, 8, 9, 10, 11, 12, 13, 14, 15] (by kernel_rfl) (by kernel_rfl) (by kernel_rfl) ?_
        refine k_val rfl rfl rfl (pSub (pCons Sel.hc (pCons Sel.hc (pCons Sel.hc (pCons Sel.hc (pApp Sel.ha (pApp Sel.ha pNil))))))) (stepV_ok tt_ok rfl) rfl ?_
        refine k_val (v := .pointer (some ⟨b5, 4, none⟩)) rfl rfl rfl (pSub (pCons Sel.hc (pCons Sel.hc (pCons Sel.hc (pCons Sel.hc (pApp Sel.ha (pApp Sel.ha pNil))))))) (stepV_ok tt_ok rfl) rfl ?_
        refine k_val (v := .int .u8 v16.Owner) rfl rfl rfl (pSub (pCons Sel.hc (pCons Sel.hc (pCons Sel.hc (pCons Sel.hc (pApp Sel.ha (pApp Sel.ha pNil))))))) (val_load tt_ok rfl (List.Mem.tail _ (List.Mem.head _)) rfl) rfl ?_
        refine k_val rfl rfl rfl (pSub (pCons Sel.hc (pCons Sel.hc (pCons Sel.hc (pCons Sel.hc (pApp Sel.ha (pApp Sel.ha pNil))))))) (stepV_ok tt_ok rfl) rfl ?_
        refine k_val (v := .pointer (some ⟨b5, 4, none⟩)) rfl rfl rfl (pSub (pCons Sel.hc (pCons Sel.hc (pCons Sel.hc (pCons Sel.hc (pApp Sel.ha (pApp Sel.ha pNil))))))) (stepV_ok tt_ok rfl) rfl ?_
        refine k_val (v := .int .u8 v16.Owner) rfl rfl rfl (pSub (pCons Sel.hc (pCons Sel.hc (pCons Sel.hc (pCons Sel.hc (pApp Sel.ha (pApp Sel.ha pNil))))))) (val_load tt_ok rfl (List.Mem.tail _ (List.Mem.head _)) rfl) rfl ?_
        refine k_val rfl rfl rfl (pSub (pCons Sel.hc (pCons Sel.hc (pCons Sel.hc (pCons Sel.hc (pApp Sel.ha (pApp Sel.ha pNil))))))) (stepV_ok tt_ok rfl) rfl ?_
        refine k_val (v := .pointer (some ⟨p0b, 17, none⟩)) rfl rfl rfl (pSub (pCons Sel.hc (pCons Sel.hc (pCons Sel.hc (pCons Sel.hc (pApp Sel.ha (pApp Sel.ha pNil))))))) (stepV_ok tt_ok rfl) rfl ?_
        rcases Bool.eq_false_or_eq_true (v16.Owner == (0 : Int)) with hx780 | hx780
        · replace h := ct hx780 h
          refine k_val (v := .pointer (some ⟨p0b, 17, none⟩)) rfl rfl rfl (pSub (pCons Sel.hc (pCons Sel.hc (pCons Sel.hc (pCons Sel.hc (pApp Sel.ha (pApp Sel.ha pNil))))))) (val_ia (j := 0) tt_ok rfl rfl rfl rfl (by simpa using hx780) rfl rfl) rfl ?_
          refine k_val (v := .int .u16 j9_p0_f4.1) rfl rfl rfl (pSub (pCons Sel.hc (pCons Sel.hc (pCons Sel.hc (pCons Sel.hc (pApp Sel.ha (pApp Sel.ha pNil))))))) (val_load tt_ok rfl (List.Mem.tail _ (List.Mem.tail _ (List.Mem.head _))) rfl) rfl ?_
          refine k_val (v := .int .u16 (min j9_p0_f4.1 (65534 : Int))) rfl rfl rfl (pSub (pCons Sel.hc (pCons Sel.hc (pCons Sel.hc (pCons Sel.hc (pApp Sel.ha (pApp Sel.ha pNil))))))) (stepV_ok tt_ok rfl) rfl ?_
          refine k_val (v := .int .u16 (IntKind.wrap .u16 ((min j9_p0_f4.1 (65534 : Int)) + (1 : Int)))) rfl rfl rfl (pSub (pCons Sel.hc (pCons Sel.hc (pCons Sel.hc (pCons Sel.hc (pApp Sel.ha (pApp Sel.ha pNil))))))) (stepV_ok tt_ok rfl) rfl ?_
          refine k_val rfl rfl rfl (pSub (pCons Sel.hc (pCons Sel.hc (pCons Sel.hc (pCons Sel.hc (pApp Sel.ha (pApp Sel.ha pNil))))))) (stepV_ok tt_ok rfl) rfl ?_
          refine k_val (v := .pointer (some ⟨p0b, 17, none⟩)) rfl rfl rfl (pSub (pCons Sel.hc (pCons Sel.hc (pCons Sel.hc (pCons Sel.hc (pApp Sel.ha (pApp Sel.ha pNil))))))) (stepV_ok tt_ok rfl) rfl ?_
          refine k_val (v := .pointer (some ⟨p0b, 17, none⟩)) rfl rfl rfl (pSub (pCons Sel.hc (pCons Sel.hc (pCons Sel.hc (pCons Sel.hc (pApp Sel.ha (pApp Sel.ha pNil))))))) (val_ia (j := 0) tt_ok rfl rfl rfl rfl (by simpa using hx780) rfl rfl) rfl ?_
          refine k_chg0 rfl rfl rfl (chg_store tt_ok rfl (Upd.there (Upd.there Upd.here)) rfl rfl rfl rfl rfl rfl) (.inl rfl) ?_
          rintro _ _ rfl
          refine k_end (by kernel_rfl) ?_
          refine wx_block (wx_block (wx_then (wc_region ?_)))
          refine wl_pure (v := .int .i64 (IntKind.wrap .i64 (j9_14 + (1 : Int)))) tt_ok rfl rfl ?_
          refine wl_pure tt_ok rfl rfl ?_
          refine wl_nil ?_
          exact wx_round m9 (Nat.lt_succ_self m9) ⟨j9_3, (IntKind.wrap .i64 (j9_14 + (1 : Int))), (j9_p0_f2.1, (T_api_Player.mk j9_p0_f2.2.X j9_p0_f2.2.Y j9_p0_f2.2.VX j9_p0_f2.2.VY (IntKind.wrap .u8 (j9_p0_f2.2.Health - (min j9_p0_f2.2.Health (10 : Int)))) j9_p0_f2.2.Cool j9_p0_f2.2.Face)), ((IntKind.wrap .u16 ((min j9_p0_f4.1 (65534 : Int)) + (1 : Int))), j9_p0_f4.2), j9_3a0, j9_3n0, j9_3c0, j9_3B0, h, j9_3N0, j9_3V0, rfl, rfl⟩ (agree_cons rfl (agree_cons rfl (agree_cons rfl (agree_cons rfl (agree_cons rfl (agree_cons rfl agree_nil)))))) (pSub (pCons (Sel.sc (Sel.sc Sel.hc)) (pCons (Sel.sc (Sel.sc Sel.hc)) (pApp (Sel.sc (Sel.sc Sel.ha)) (pApp (Sel.sc (Sel.sc Sel.ha)) pNil)))))
        replace h := cf hx780 h
        rcases Bool.eq_false_or_eq_true (v16.Owner == (1 : Int)) with hx781 | hx781
        · replace h := ct hx781 h
          refine k_val (v := .pointer (some ⟨p0b, 18, none⟩)) rfl rfl rfl (pSub (pCons Sel.hc (pCons Sel.hc (pCons Sel.hc (pCons Sel.hc (pApp Sel.ha (pApp Sel.ha pNil))))))) (val_ia (j := 1) tt_ok rfl rfl rfl rfl (by simpa using hx781) rfl rfl) rfl ?_
          refine k_val (v := .int .u16 j9_p0_f4.2) rfl rfl rfl (pSub (pCons Sel.hc (pCons Sel.hc (pCons Sel.hc (pCons Sel.hc (pApp Sel.ha (pApp Sel.ha pNil))))))) (val_load tt_ok rfl (List.Mem.tail _ (List.Mem.tail _ (List.Mem.head _))) rfl) rfl ?_
          refine k_val (v := .int .u16 (min j9_p0_f4.2 (65534 : Int))) rfl rfl rfl (pSub (pCons Sel.hc (pCons Sel.hc (pCons Sel.hc (pCons Sel.hc (pApp Sel.ha (pApp Sel.ha pNil))))))) (stepV_ok tt_ok rfl) rfl ?_
          refine k_val (v := .int .u16 (IntKind.wrap .u16 ((min j9_p0_f4.2 (65534 : Int)) + (1 : Int)))) rfl rfl rfl (pSub (pCons Sel.hc (pCons Sel.hc (pCons Sel.hc (pCons Sel.hc (pApp Sel.ha (pApp Sel.ha pNil))))))) (stepV_ok tt_ok rfl) rfl ?_
          refine k_val rfl rfl rfl (pSub (pCons Sel.hc (pCons Sel.hc (pCons Sel.hc (pCons Sel.hc (pApp Sel.ha (pApp Sel.ha pNil))))))) (stepV_ok tt_ok rfl) rfl ?_
          refine k_val (v := .pointer (some ⟨p0b, 17, none⟩)) rfl rfl rfl (pSub (pCons Sel.hc (pCons Sel.hc (pCons Sel.hc (pCons Sel.hc (pApp Sel.ha (pApp Sel.ha pNil))))))) (stepV_ok tt_ok rfl) rfl ?_
          refine k_val (v := .pointer (some ⟨p0b, 18, none⟩)) rfl rfl rfl (pSub (pCons Sel.hc (pCons Sel.hc (pCons Sel.hc (pCons Sel.hc (pApp Sel.ha (pApp Sel.ha pNil))))))) (val_ia (j := 1) tt_ok rfl rfl rfl rfl (by simpa using hx781) rfl rfl) rfl ?_
          refine k_chg0 rfl rfl rfl (chg_store tt_ok rfl (Upd.there (Upd.there Upd.here)) rfl rfl rfl rfl rfl rfl) (.inl rfl) ?_
          rintro _ _ rfl
          refine k_end (by kernel_rfl) ?_
          refine wx_block (wx_block (wx_then (wc_region ?_)))
          refine wl_pure (v := .int .i64 (IntKind.wrap .i64 (j9_14 + (1 : Int)))) tt_ok rfl rfl ?_
          refine wl_pure tt_ok rfl rfl ?_
          refine wl_nil ?_
          exact wx_round m9 (Nat.lt_succ_self m9) ⟨j9_3, (IntKind.wrap .i64 (j9_14 + (1 : Int))), (j9_p0_f2.1, (T_api_Player.mk j9_p0_f2.2.X j9_p0_f2.2.Y j9_p0_f2.2.VX j9_p0_f2.2.VY (IntKind.wrap .u8 (j9_p0_f2.2.Health - (min j9_p0_f2.2.Health (10 : Int)))) j9_p0_f2.2.Cool j9_p0_f2.2.Face)), (j9_p0_f4.1, (IntKind.wrap .u16 ((min j9_p0_f4.2 (65534 : Int)) + (1 : Int)))), j9_3a0, j9_3n0, j9_3c0, j9_3B0, h, j9_3N0, j9_3V0, rfl, rfl⟩ (agree_cons rfl (agree_cons rfl (agree_cons rfl (agree_cons rfl (agree_cons rfl (agree_cons rfl agree_nil)))))) (pSub (pCons (Sel.sc (Sel.sc Sel.hc)) (pCons (Sel.sc (Sel.sc Sel.hc)) (pApp (Sel.sc (Sel.sc Sel.ha)) (pApp (Sel.sc (Sel.sc Sel.ha)) pNil)))))
        replace h := cf hx781 h
        cases h
      replace h := cf hc h
      refine wc_seq (wc_region ?_)
      refine wl_pure (v := .pointer (some ⟨b5, 5, none⟩)) tt_ok rfl rfl ?_
      refine wl_val (v := .int .u8 (IntKind.wrap .u8 (v16.Life - (1 : Int)))) (val_load tt_ok rfl (List.Mem.tail _ (List.Mem.head _)) rfl) rfl ?_
      refine wl_pure (v := .bool (decide ((0 : Int) < (IntKind.wrap .u8 (v16.Life - (1 : Int)))))) tt_ok rfl rfl ?_
      refine wl_pure tt_ok rfl rfl ?_
      refine wl_nil (wx_then ?_)
      refine wc_cond rfl (fun hc => ?_) (fun hc => ?_)
      · replace h := ct hc h
        refine wc_region ?_
        refine wl_pure tt_ok rfl rfl ?_
        refine wl_val (v := .agg #[.int .i32 (IntKind.wrap .i32 (v16.X + v16.VX)), .int .i32 (IntKind.wrap .i32 (v16.Y + v16.VY)), .int .i32 v16.VX, .int .i32 v16.VY, .int .u8 v16.Owner, .int .u8 (IntKind.wrap .u8 (v16.Life - (1 : Int)))]) (val_load tt_ok rfl (List.Mem.tail _ (List.Mem.head _)) rfl) rfl ?_
        refine wl_chg (chg_bsv (enc := c_T_api_Shot) (xs := ([(T_api_Shot.mk (IntKind.wrap .i32 (v16.X + v16.VX)) (IntKind.wrap .i32 (v16.Y + v16.VY)) v16.VX v16.VY v16.Owner (IntKind.wrap .u8 (v16.Life - (1 : Int))))] : List T_api_Shot)) tt_ok rfl rfl rfl rfl rfl rfl rfl rfl c_T_api_Shot_len) rfl ?_
        rintro _ _ ⟨a91, n91_, c91, B91, rfl, N91, V91, rfl⟩
        replace h := bsome h; obtain ⟨v92, x92, h⟩ := h
        refine wl_chg (chg_app (enc := c_T_api_Shot) (ys := ([(T_api_Shot.mk (IntKind.wrap .i32 (v16.X + v16.VX)) (IntKind.wrap .i32 (v16.Y + v16.VY)) v16.VX v16.VY v16.Owner (IntKind.wrap .u8 (v16.Life - (1 : Int))))] : List T_api_Shot)) tt_ok rfl rfl rfl rfl rfl rfl j9_3N0 N91 j9_3V0 (Sel.sa (Sel.sc (Sel.sc (Sel.sc (Sel.sc (Sel.sa Sel.ha)))))) (Rds.of_vec V91) ⟨_, Sel.ha⟩ c_T_api_Shot_len (fun _ => rfl) rfl x92) rfl ?_
        rintro _ _ ⟨a92, n92_, c92, B92, rfl, N92, V92, rfl⟩
        refine wl_pure tt_ok rfl rfl ?_
        refine wl_nil (wx_block (wx_block (wx_then (wc_region ?_))))
        refine wl_pure (v := .int .i64 (IntKind.wrap .i64 (j9_14 + (1 : Int)))) tt_ok rfl rfl ?_
        refine wl_pure tt_ok rfl rfl ?_
        refine wl_nil ?_
        exact wx_round m9 (Nat.lt_succ_self m9) ⟨v92, (IntKind.wrap .i64 (j9_14 + (1 : Int))), j9_p0_f2, j9_p0_f4, a92, n92_, c92, B92, h, N92, V92, rfl, rfl⟩ (agree_cons rfl (agree_cons rfl (agree_cons rfl (agree_cons rfl (agree_cons rfl (agree_cons rfl agree_nil)))))) (pSub (pCons (Sel.sa (Sel.sa (Sel.sc (Sel.sc Sel.hc)))) (pCons (Sel.sa (Sel.sa (Sel.sc (Sel.sc Sel.hc)))) (pApp (Sel.sa (Sel.sa (Sel.sc (Sel.sc Sel.ha)))) (pApp Sel.ha pNil)))))
      replace h := cf hc h
      refine wc_skip (wx_block (wx_block (wx_then (wc_region ?_))))
      refine wl_pure (v := .int .i64 (IntKind.wrap .i64 (j9_14 + (1 : Int)))) tt_ok rfl rfl ?_
      refine wl_pure tt_ok rfl rfl ?_
      refine wl_nil ?_
      exact wx_round m9 (Nat.lt_succ_self m9) ⟨j9_3, (IntKind.wrap .i64 (j9_14 + (1 : Int))), j9_p0_f2, j9_p0_f4, j9_3a0, j9_3n0, j9_3c0, j9_3B0, h, j9_3N0, j9_3V0, rfl, rfl⟩ (agree_cons rfl (agree_cons rfl (agree_cons rfl (agree_cons rfl (agree_cons rfl (agree_cons rfl agree_nil)))))) (pSub (pCons (Sel.sc (Sel.sc Sel.hc)) (pCons (Sel.sc (Sel.sc Sel.hc)) (pApp (Sel.sc (Sel.sc Sel.ha)) (pApp (Sel.sc (Sel.sc Sel.ha)) pNil)))))
    replace h := cf hx451 h
    cases h
  replace h := cf hc h
  refine wc_exit (wx_then_exit ?_)
  simp only [Option.some.injEq, Prod.mk.injEq] at h
  obtain ⟨rfl, rfl, rfl⟩ := h
  have h := hl9; clear hl9; try dsimp only [orE_l, orE_r] at h
  refine wx_then_exit (wx_block_exit (wx_then (wc_region ?_)))
  iterate 3 refine wl_pure tt_ok rfl rfl ?_
  refine wl_pure (v := .pointer (some ⟨p0b, 16, none⟩)) tt_ok rfl rfl ?_
  apply wl_store tt_ok; rfl; exact Upd.here; rfl; rfl; rfl; rfl; rfl; rfl
  refine wl_nil ?_
  simp only [Option.some.injEq] at h
  obtain rfl := h
  exact wx_spD tt_ok (.inr rfl) Tryd.results61 Res.nil ⟨j9_3a0, j9_3n0, j9_3c0, j9_3B0, j9_3N0, j9_3V0, rfl, rfl⟩ (fun F => by simp) (pSub (pCons Sel.hc (pApp (Sel.sc (Sel.sa Sel.ha)) pNil)))

theorem k_rng_Source_Skip {F : Nat} {p0 : T_rng_Source} {p1 : Int} {r0 : T_rng_Source} (h : m_rng_Source_Skip F p0 p1 = some r0) :
    Pf Tryd.prog 79 [.agg #[.int .u64 p0.S], .int .u64 p1] (fun w => True) (.agg #[.int .u64 r0.S]) := by
  unfold m_rng_Source_Skip at h
  refine pf_of_wc Tryd.func79 rfl Tryd.ntmps79 rfl rfl (fun w0 hR => ?_)
  refine wc_seq (wc_region ?_)
  refine wl_box rfl rfl rfl (fun b2 => ?_)
  refine wl_alloc tt_ok rfl rfl (fun b4 => ?_)
  refine wl_nil (wx_then (wc_seq (wc_region ?_)))
  refine wl_pure (v := .pointer (some ⟨b2, 0, none⟩)) tt_ok rfl rfl ?_
  refine wl_val (v := .int .u64 p0.S) (val_load tt_ok rfl (List.Mem.tail _ (List.Mem.head _)) rfl) rfl ?_
  refine wl_pure tt_ok rfl rfl ?_
  refine wl_pure (v := .int .u64 (IntKind.wrap .u64 (p1 * (11400714819323198485 : Int)))) tt_ok rfl rfl ?_
  refine wl_pure (v := .int .u64 (IntKind.wrap .u64 (p0.S + (IntKind.wrap .u64 (p1 * (11400714819323198485 : Int)))))) tt_ok rfl rfl ?_
  refine wl_pure (v := .agg #[.int .u64 (IntKind.wrap .u64 (p0.S + (IntKind.wrap .u64 (p1 * (11400714819323198485 : Int)))))]) tt_ok rfl rfl ?_
  apply wl_store tt_ok; rfl; exact Upd.here; rfl; rfl; rfl; rfl; rfl; rfl
  refine wl_nil (wx_then (wc_ret ?_))
  simp only [Option.some.injEq] at h
  obtain rfl := h
  exact wx_pf tt_ok (.inl rfl) Tryd.results79 (Res.cell rfl (List.Mem.head _) rfl Res.nil) rfl

theorem k_rng_Mix {F : Nat} {p0 : Int} {r0 : Int} (h : m_rng_Mix F p0 = some r0) :
    Pf Tryd.prog 80 [.int .u64 p0] (fun w => True) (.int .u64 r0) := by
  unfold m_rng_Mix at h
  refine pf_of_wc Tryd.func80 rfl Tryd.ntmps80 rfl rfl (fun w0 hR => ?_)
  refine wc_seq (wc_region ?_)
  refine wl_pure tt_ok rfl rfl ?_
  refine wl_nil (wx_then (wc_seq (wc_region ?_)))
  iterate 2 refine wl_pure tt_ok rfl rfl ?_
  refine wl_pure (v := .int .u64 (p0 / 2 ^ (min 30 (IntKind.bits .u64)))) tt_ok rfl rfl ?_
  refine wl_pure (v := .int .u64 (bits .xor .u64 p0 (p0 / 2 ^ (min 30 (IntKind.bits .u64))))) tt_ok rfl rfl ?_
  refine wl_pure (v := .int .u64 (IntKind.wrap .u64 ((bits .xor .u64 p0 (p0 / 2 ^ (min 30 (IntKind.bits .u64)))) * (13787848793156543929 : Int)))) tt_ok rfl rfl ?_
  refine wl_pure tt_ok rfl rfl ?_
  refine wl_nil (wx_then (wc_seq (wc_region ?_)))
  iterate 2 refine wl_pure tt_ok rfl rfl ?_
  refine wl_pure (v := .int .u64 ((IntKind.wrap .u64 ((bits .xor .u64 p0 (p0 / 2 ^ (min 30 (IntKind.bits .u64)))) * (13787848793156543929 : Int))) / 2 ^ (min 27 (IntKind.bits .u64)))) tt_ok rfl rfl ?_
  refine wl_pure (v := .int .u64 (bits .xor .u64 (IntKind.wrap .u64 ((bits .xor .u64 p0 (p0 / 2 ^ (min 30 (IntKind.bits .u64)))) * (13787848793156543929 : Int))) ((IntKind.wrap .u64 ((bits .xor .u64 p0 (p0 / 2 ^ (min 30 (IntKind.bits .u64)))) * (13787848793156543929 : Int))) / 2 ^ (min 27 (IntKind.bits .u64))))) tt_ok rfl rfl ?_
  refine wl_pure (v := .int .u64 (IntKind.wrap .u64 ((bits .xor .u64 (IntKind.wrap .u64 ((bits .xor .u64 p0 (p0 / 2 ^ (min 30 (IntKind.bits .u64)))) * (13787848793156543929 : Int))) ((IntKind.wrap .u64 ((bits .xor .u64 p0 (p0 / 2 ^ (min 30 (IntKind.bits .u64)))) * (13787848793156543929 : Int))) / 2 ^ (min 27 (IntKind.bits .u64)))) * (10723151780598845931 : Int)))) tt_ok rfl rfl ?_
  refine wl_pure tt_ok rfl rfl ?_
  refine wl_nil (wx_then (wc_seq (wc_region ?_)))
  iterate 2 refine wl_pure tt_ok rfl rfl ?_
  refine wl_pure (v := .int .u64 ((IntKind.wrap .u64 ((bits .xor .u64 (IntKind.wrap .u64 ((bits .xor .u64 p0 (p0 / 2 ^ (min 30 (IntKind.bits .u64)))) * (13787848793156543929 : Int))) ((IntKind.wrap .u64 ((bits .xor .u64 p0 (p0 / 2 ^ (min 30 (IntKind.bits .u64)))) * (13787848793156543929 : Int))) / 2 ^ (min 27 (IntKind.bits .u64)))) * (10723151780598845931 : Int))) / 2 ^ (min 31 (IntKind.bits .u64)))) tt_ok rfl rfl ?_
  refine wl_pure (v := .int .u64 (bits .xor .u64 (IntKind.wrap .u64 ((bits .xor .u64 (IntKind.wrap .u64 ((bits .xor .u64 p0 (p0 / 2 ^ (min 30 (IntKind.bits .u64)))) * (13787848793156543929 : Int))) ((IntKind.wrap .u64 ((bits .xor .u64 p0 (p0 / 2 ^ (min 30 (IntKind.bits .u64)))) * (13787848793156543929 : Int))) / 2 ^ (min 27 (IntKind.bits .u64)))) * (10723151780598845931 : Int))) ((IntKind.wrap .u64 ((bits .xor .u64 (IntKind.wrap .u64 ((bits .xor .u64 p0 (p0 / 2 ^ (min 30 (IntKind.bits .u64)))) * (13787848793156543929 : Int))) ((IntKind.wrap .u64 ((bits .xor .u64 p0 (p0 / 2 ^ (min 30 (IntKind.bits .u64)))) * (13787848793156543929 : Int))) / 2 ^ (min 27 (IntKind.bits .u64)))) * (10723151780598845931 : Int))) / 2 ^ (min 31 (IntKind.bits .u64))))) tt_ok rfl rfl ?_
  refine wl_pure tt_ok rfl rfl ?_
  refine wl_nil (wx_then (wc_ret ?_))
  simp only [Option.some.injEq] at h
  obtain rfl := h
  exact wx_pf tt_ok (.inl rfl) Tryd.results80 (Res.tmp rfl Res.nil) rfl

theorem k_rng_Source_Next {F : Nat} {p0 : T_rng_Source} {r0 : Int} {r1 : T_rng_Source} (h : m_rng_Source_Next F p0 = some (r0, r1)) :
    Pf Tryd.prog 77 [.agg #[.int .u64 p0.S]] (fun w => True) (.tuple #[.int .u64 r0, .agg #[.int .u64 r1.S]]) := by
  unfold m_rng_Source_Next at h
  refine pf_of_wc Tryd.func77 rfl Tryd.ntmps77 rfl rfl (fun w0 hR => ?_)
  refine wc_seq (wc_region ?_)
  refine wl_box rfl rfl rfl (fun b1 => ?_)
  refine wl_pure tt_ok rfl rfl ?_
  refine wl_alloc tt_ok rfl rfl (fun b3 => ?_)
  refine wl_nil (wx_then (wc_seq (wc_region ?_)))
  refine wl_val (v := .agg #[.int .u64 p0.S]) (val_load tt_ok rfl (List.Mem.tail _ (List.Mem.head _)) rfl) rfl ?_
  replace h := bsome h; obtain ⟨v5, x5, h⟩ := h
  refine wl_cq Tryd.call79 rfl rfl rfl (q_pf (k_rng_Source_Skip x5) (fun _ _ => trivial)) rfl ?_
  apply wl_store tt_ok; rfl; exact (Upd.there Upd.here); rfl; rfl; rfl; rfl; rfl; rfl
  refine wl_nil (wx_then (wc_seq ?_))
  refine wc_k2 (Ls := (⟨b3, [.int .u64 (0 : Int)], 129, (0, 0)⟩ :: (⟨b1, [.int .u64 v5.S], 129, (0, 0)⟩ :: []))) [2, 4, 5] [5] [0, 1, 3, 0, 7, 31] [0, 1, 3, 2, 4, 5] (by kernel_rfl) (by kernel_rfl) (by kernel_rfl) ?_
  refine k_val (v := .pointer (some ⟨b1, 0, none⟩)) rfl rfl rfl (pSub (pCons Sel.hc (pCons Sel.hc pNil))) (stepV_ok tt_ok rfl) rfl ?_
  refine k_val (v := .int .u64 v5.S) rfl rfl rfl (pSub (pCons Sel.hc (pCons Sel.hc pNil))) (val_load tt_ok rfl (List.Mem.tail _ (List.Mem.head _)) rfl) rfl ?_
  refine k_val (v := .agg #[.int .u64 v5.S]) rfl rfl rfl (pSub (pCons Sel.hc (pCons Sel.hc pNil))) (val_load tt_ok rfl (List.Mem.tail _ (List.Mem.head _)) rfl) rfl ?_
  replace h := bsome h; obtain ⟨v8, x8, h⟩ := h
  refine k_cq rfl rfl rfl Tryd.call80 rfl rfl rfl (q_pf (k_rng_Mix x8) (fun _ _ => trivial)) rfl (pSub (pCons Sel.hc (pCons Sel.hc pNil))) ?_
  refine k_chg rfl rfl rfl (Chg.of_val (stepV_ok tt_ok rfl)) rfl (.inr (by rintro _ _ ⟨rfl, rfl⟩; exact (pSub (pCons Sel.hc (pCons Sel.hc pNil))))) ?_
  rintro _ _ ⟨rfl, rfl⟩
  refine k_chg0 rfl rfl rfl (chg_store tt_ok rfl Upd.here rfl rfl rfl rfl rfl rfl) (.inl rfl) ?_
  rintro _ _ rfl
  refine k_end (by kernel_rfl) ?_
  refine wx_then (wc_ret ?_)
  simp only [Option.some.injEq, Prod.mk.injEq] at h
  obtain ⟨rfl, rfl⟩ := h
  exact wx_pf tt_ok (.inl rfl) Tryd.results77 (Res.tmp rfl (Res.cell rfl (List.Mem.head _) rfl Res.nil)) rfl

theorem k_rng_Source_Below {F : Nat} {p0 : T_rng_Source} {p1 : Int} {r0 : Int} {r1 : T_rng_Source} (h : m_rng_Source_Below F p0 p1 = some (r0, r1)) :
    Pf Tryd.prog 73 [.agg #[.int .u64 p0.S], .int .i64 p1] (fun w => True) (.tuple #[.int .i64 r0, .agg #[.int .u64 r1.S]]) := by
  unfold m_rng_Source_Below at h
  refine pf_of_wc Tryd.func73 rfl Tryd.ntmps73 rfl rfl (fun w0 hR => ?_)
  refine wc_seq (wc_region ?_)
  refine wl_box rfl rfl rfl (fun b2 => ?_)
  refine wl_pure tt_ok rfl rfl ?_
  refine wl_alloc tt_ok rfl rfl (fun b5 => ?_)
  refine wl_nil (wx_then (wc_seq (wc_seq (wc_region ?_))))
  refine wl_pure tt_ok rfl rfl ?_
  refine wl_pure (v := .bool (decide (p1 < (1 : Int)))) tt_ok rfl rfl ?_
  refine wl_nil (wx_then ?_)
  refine wc_cond rfl (fun hc => ?_) (fun hc => ?_)
  · replace h := ct hc h
    refine wc_seq ?_
    refine wc_k2 (Ls := (⟨b5, [.int .u64 (0 : Int)], 129, (0, 0)⟩ :: (⟨b2, [.int .u64 p0.S], 129, (0, 0)⟩ :: []))) [2] [2] [0, 0, 3] [0, 1, 2] (by kernel_rfl) (by kernel_rfl) (by kernel_rfl) ?_
    refine k_val (v := .agg #[.int .u64 p0.S]) rfl rfl rfl (pSub (pCons Sel.hc (pCons Sel.hc pNil))) (val_load tt_ok rfl (List.Mem.tail _ (List.Mem.head _)) rfl) rfl ?_
    refine k_val rfl rfl rfl (pSub (pCons Sel.hc (pCons Sel.hc pNil))) (stepV_ok tt_ok rfl) rfl ?_
    refine k_chg0 rfl rfl rfl (chg_store tt_ok rfl Upd.here rfl rfl rfl rfl rfl rfl) (.inl rfl) ?_
    rintro _ _ rfl
    refine k_end (by kernel_rfl) ?_
    refine wx_then (wc_ret (wx_then_ret ?_))
    simp only [Option.some.injEq, Prod.mk.injEq] at h
    obtain ⟨rfl, rfl⟩ := h
    exact wx_pf tt_ok (.inl rfl) Tryd.results73 (Res.tmp rfl (Res.cell rfl (List.Mem.head _) rfl Res.nil)) rfl
  replace h := cf hc h
  refine wc_skip (wx_then (wc_seq (wc_region ?_)))
  refine wl_val (v := .agg #[.int .u64 p0.S]) (val_load tt_ok rfl (List.Mem.tail _ (List.Mem.head _)) rfl) rfl ?_
  replace h := bsome h; obtain ⟨⟨v13_0, v13_1⟩, x13, h⟩ := h; try dsimp only at h
  refine wl_cq Tryd.call77 rfl rfl rfl (q_pf (k_rng_Source_Next x13) (fun _ _ => trivial)) rfl ?_
  iterate 3 refine wl_pure tt_ok rfl rfl ?_
  refine wl_alloc tt_ok rfl rfl (fun b7 => ?_)
  refine wl_pure tt_ok rfl rfl ?_
  apply wl_store tt_ok; rfl; exact Upd.here; rfl; rfl; rfl; rfl; rfl; rfl
  refine wl_nil (wx_then (wc_seq ?_))
  refine wc_k2 (Ls := (⟨b7, [.int .u64 v13_1.S], 129, (0, 0)⟩ :: (⟨b5, [.int .u64 (0 : Int)], 129, (0, 0)⟩ :: (⟨b2, [.int .u64 p0.S], 129, (0, 0)⟩ :: [])))) [10] [10] [0, 1, 0, 4, 12, 31, 63, 127, 0, 255, 1023] [0, 1, 2, 3, 4, 5, 6, 7, 8, 9, 10] (by kernel_rfl) (by kernel_rfl) (by kernel_rfl) ?_
  refine k_val rfl rfl rfl (pSub (pCons Sel.hc (pCons Sel.hc (pCons Sel.hc pNil)))) (stepV_ok tt_ok rfl) rfl ?_
  refine k_val (v := .int .u64 (v13_0 / 2 ^ (min 32 (IntKind.bits .u64)))) rfl rfl rfl (pSub (pCons Sel.hc (pCons Sel.hc (pCons Sel.hc pNil)))) (stepV_ok tt_ok rfl) rfl ?_
  refine k_val rfl rfl rfl (pSub (pCons Sel.hc (pCons Sel.hc (pCons Sel.hc pNil)))) (stepV_ok tt_ok rfl) rfl ?_
  refine k_val (v := .int .i64 (min p1 (2147483648 : Int))) rfl rfl rfl (pSub (pCons Sel.hc (pCons Sel.hc (pCons Sel.hc pNil)))) (stepV_ok tt_ok rfl) rfl ?_
  refine k_val (v := .int .u64 (IntKind.wrap .u64 (min p1 (2147483648 : Int)))) rfl rfl rfl (pSub (pCons Sel.hc (pCons Sel.hc (pCons Sel.hc pNil)))) (stepV_ok tt_ok rfl) rfl ?_
  refine k_val (v := .int .u64 (IntKind.wrap .u64 ((v13_0 / 2 ^ (min 32 (IntKind.bits .u64))) * (IntKind.wrap .u64 (min p1 (2147483648 : Int)))))) rfl rfl rfl (pSub (pCons Sel.hc (pCons Sel.hc (pCons Sel.hc pNil)))) (stepV_ok tt_ok rfl) rfl ?_
  refine k_val (v := .int .u64 ((IntKind.wrap .u64 ((v13_0 / 2 ^ (min 32 (IntKind.bits .u64))) * (IntKind.wrap .u64 (min p1 (2147483648 : Int))))) / 2 ^ (min 32 (IntKind.bits .u64)))) rfl rfl rfl (pSub (pCons Sel.hc (pCons Sel.hc (pCons Sel.hc pNil)))) (stepV_ok tt_ok rfl) rfl ?_
  refine k_val (v := .int .i64 (IntKind.wrap .i64 ((IntKind.wrap .u64 ((v13_0 / 2 ^ (min 32 (IntKind.bits .u64))) * (IntKind.wrap .u64 (min p1 (2147483648 : Int))))) / 2 ^ (min 32 (IntKind.bits .u64))))) rfl rfl rfl (pSub (pCons Sel.hc (pCons Sel.hc (pCons Sel.hc pNil)))) (stepV_ok tt_ok rfl) rfl ?_
  refine k_val (v := .agg #[.int .u64 v13_1.S]) rfl rfl rfl (pSub (pCons Sel.hc (pCons Sel.hc (pCons Sel.hc pNil)))) (val_load tt_ok rfl (List.Mem.head _) rfl) rfl ?_
  refine k_val rfl rfl rfl (pSub (pCons Sel.hc (pCons Sel.hc (pCons Sel.hc pNil)))) (stepV_ok tt_ok rfl) rfl ?_
  refine k_chg0 rfl rfl rfl (chg_store tt_ok rfl (Upd.there Upd.here) rfl rfl rfl rfl rfl rfl) (.inl rfl) ?_
  rintro _ _ rfl
  refine k_end (by kernel_rfl) ?_
  refine wx_then (wc_ret ?_)
  simp only [Option.some.injEq, Prod.mk.injEq] at h
  obtain ⟨rfl, rfl⟩ := h
  exact wx_pf tt_ok (.inl rfl) Tryd.results73 (Res.tmp rfl (Res.cell rfl (List.Mem.tail _ (List.Mem.head _)) rfl Res.nil)) rfl

theorem k_step_revive {F : Nat} {p0 : T_api_State} {p0b p0t : Nat} {p0a0 : Option Addr} {p0n0 : Nat} {p0c0 : Nat} {p0B0 : List Blk} {p1 : Int} {r0 : T_api_State} (p0N0 : p0n0 = p0.Shots.length) (p0V0 : Own 80 6 p0a0 p0n0 p0c0 (flat c_T_api_Shot p0.Shots) p0B0) (h : m_step_revive F p0 p1 = some r0) :
    SpD Tryd.prog 62 [.pointer (some ⟨p0b, 0, none⟩), .int .i64 p1] (⟨p0b, [.int .u64 p0.Frame, .int .u64 p0.Seed, .int .i32 p0.Players.1.X, .int .i32 p0.Players.1.Y, .int .i32 p0.Players.1.VX, .int .i32 p0.Players.1.VY, .int .u8 p0.Players.1.Health, .int .u8 p0.Players.1.Cool, .int .u8 p0.Players.1.Face, .int .i32 p0.Players.2.X, .int .i32 p0.Players.2.Y, .int .i32 p0.Players.2.VX, .int .i32 p0.Players.2.VY, .int .u8 p0.Players.2.Health, .int .u8 p0.Players.2.Cool, .int .u8 p0.Players.2.Face, .slice p0a0 p0n0 p0c0, .int .u16 p0.Score.1, .int .u16 p0.Score.2], p0t, (0, 0)⟩ :: (p0B0 ++ [])) (fun w => True) (fun v D => ∃ (r0a0 : Option Addr) (r0n0 : Nat) (r0c0 : Nat) (r0B0 : List Blk), r0n0 = r0.Shots.length ∧ Own 80 6 r0a0 r0n0 r0c0 (flat c_T_api_Shot r0.Shots) r0B0 ∧ v = .tuple #[] ∧ D = fun F => (⟨p0b, [.int .u64 r0.Frame, .int .u64 r0.Seed, .int .i32 r0.Players.1.X, .int .i32 r0.Players.1.Y, .int .i32 r0.Players.1.VX, .int .i32 r0.Players.1.VY, .int .u8 r0.Players.1.Health, .int .u8 r0.Players.1.Cool, .int .u8 r0.Players.1.Face, .int .i32 r0.Players.2.X, .int .i32 r0.Players.2.Y, .int .i32 r0.Players.2.VX, .int .i32 r0.Players.2.VY, .int .u8 r0.Players.2.Health, .int .u8 r0.Players.2.Cool, .int .u8 r0.Players.2.Face, .slice r0a0 r0n0 r0c0, .int .u16 r0.Score.1, .int .u16 r0.Score.2], p0t, (0, 0)⟩ :: (r0B0 ++ F))) := by
  unfold m_step_revive at h
  refine sp_of_wc Tryd.func62 rfl Tryd.ntmps62 rfl rfl (fun w0 hR => ?_)
  refine wc_seq (wc_region ?_)
  iterate 3 refine wl_pure tt_ok rfl rfl ?_
  refine wl_pure (v := .pointer (some ⟨p0b, 2, none⟩)) tt_ok rfl rfl ?_
  rcases Bool.eq_false_or_eq_true (p1 == (0 : Int)) with hx130 | hx130
  · replace h := ct hx130 h
    refine wl_val (v := .pointer (some ⟨p0b, 2, none⟩)) (val_ia (j := 0) tt_ok rfl rfl rfl rfl (by simpa using hx130) rfl rfl) rfl ?_
    refine wl_val (v := .agg #[.int .i32 p0.Players.1.X, .int .i32 p0.Players.1.Y, .int .i32 p0.Players.1.VX, .int .i32 p0.Players.1.VY, .int .u8 p0.Players.1.Health, .int .u8 p0.Players.1.Cool, .int .u8 p0.Players.1.Face]) (val_load tt_ok rfl (List.Mem.head _) rfl) rfl ?_
    replace h := bsome h; obtain ⟨v15, x15, h⟩ := h
    refine wl_cq Tryd.call60 rfl rfl rfl (q_pf (k_step_stopped x15) (fun _ _ => trivial)) rfl ?_
    refine wl_alloc tt_ok rfl rfl (fun b4 => ?_)
    apply wl_store tt_ok; rfl; exact Upd.here; rfl; rfl; rfl; rfl; rfl; rfl
    refine wl_nil (wx_then (wc_seq (wc_region ?_)))
    refine wl_pure (v := .pointer (some ⟨b4, 4, none⟩)) tt_ok rfl rfl ?_
    apply wl_store tt_ok; rfl; exact Upd.here; rfl; rfl; rfl; rfl; rfl; rfl
    refine wl_nil (wx_then (wc_seq (wc_region ?_)))
    iterate 2 refine wl_pure tt_ok rfl rfl ?_
    refine wl_pure (v := .pointer (some ⟨p0b, 1, none⟩)) tt_ok rfl rfl ?_
    refine wl_val (v := .int .u64 p0.Seed) (val_load tt_ok rfl (List.Mem.tail _ (List.Mem.head _)) rfl) rfl ?_
    refine wl_pure (v := .agg #[.int .u64 p0.Seed]) tt_ok rfl rfl ?_
    refine wl_alloc tt_ok rfl rfl (fun b5 => ?_)
    apply wl_store tt_ok; rfl; exact Upd.here; rfl; rfl; rfl; rfl; rfl; rfl
    refine wl_nil (wx_then (wc_seq (wc_region ?_)))
    refine wl_val (v := .agg #[.int .u64 p0.Seed]) (val_load tt_ok rfl (List.Mem.head _) rfl) rfl ?_
    replace h := bsome h; obtain ⟨⟨v24_0, v24_1⟩, x24, h⟩ := h; try dsimp only at h
    refine wl_cq Tryd.call73 rfl rfl rfl (q_pf (k_rng_Source_Below x24) (fun _ _ => trivial)) rfl ?_
    iterate 4 refine wl_pure tt_ok rfl rfl ?_
    apply wl_store tt_ok; rfl; exact Upd.here; rfl; rfl; rfl; rfl; rfl; rfl
    refine wl_nil (wx_then (wc_seq (wc_region ?_)))
    refine wl_val (v := .agg #[.int .u64 v24_1.S]) (val_load tt_ok rfl (List.Mem.head _) rfl) rfl ?_
    replace h := bsome h; obtain ⟨⟨v29_0, v29_1⟩, x29, h⟩ := h; try dsimp only at h
    refine wl_cq Tryd.call73 rfl rfl rfl (q_pf (k_rng_Source_Below x29) (fun _ _ => trivial)) rfl ?_
    iterate 4 refine wl_pure tt_ok rfl rfl ?_
    apply wl_store tt_ok; rfl; exact Upd.here; rfl; rfl; rfl; rfl; rfl; rfl
    refine wl_nil (wx_then (wc_seq (wc_region ?_)))
    refine wl_pure tt_ok rfl rfl ?_
    refine wl_pure (v := .pointer (some ⟨b5, 0, none⟩)) tt_ok rfl rfl ?_
    refine wl_val (v := .int .u64 v29_1.S) (val_load tt_ok rfl (List.Mem.head _) rfl) rfl ?_
    refine wl_pure tt_ok rfl rfl ?_
    refine wl_pure (v := .pointer (some ⟨p0b, 1, none⟩)) tt_ok rfl rfl ?_
    apply wl_store tt_ok; rfl; exact (Upd.there (Upd.there Upd.here)); rfl; rfl; rfl; rfl; rfl; rfl
    refine wl_nil (wx_then (wc_seq (wc_region ?_)))
    refine wl_val (v := .agg #[.int .i32 v15.X, .int .i32 v15.Y, .int .i32 v15.VX, .int .i32 v15.VY, .int .u8 (100 : Int), .int .u8 v15.Cool, .int .u8 v15.Face]) (val_load tt_ok rfl (List.Mem.tail _ (List.Mem.head _)) rfl) rfl ?_
    refine wl_alloc tt_ok rfl rfl (fun b8 => ?_)
    apply wl_store tt_ok; rfl; exact Upd.here; rfl; rfl; rfl; rfl; rfl; rfl
    refine wl_nil (wx_then (wc_seq (wc_region ?_)))
    refine wl_pure tt_ok rfl rfl ?_
    refine wl_pure (v := .int .i32 (IntKind.wrap .i32 v24_0)) tt_ok rfl rfl ?_
    refine wl_pure tt_ok rfl rfl ?_
    refine wl_pure (v := .int .i32 (IntKind.wrap .i32 v29_0)) tt_ok rfl rfl ?_
    refine wl_pure (v := .pointer (some ⟨b8, 0, none⟩)) tt_ok rfl rfl ?_
    apply wl_store tt_ok; rfl; exact Upd.here; rfl; rfl; rfl; rfl; rfl; rfl
    refine wl_pure (v := .pointer (some ⟨b8, 1, none⟩)) tt_ok rfl rfl ?_
    apply wl_store tt_ok; rfl; exact Upd.here; rfl; rfl; rfl; rfl; rfl; rfl
    refine wl_nil (wx_then (wc_seq (wc_seq ?_)))
    refine wc_quiet (by kernel_rfl) (by kernel_rfl) ?_
    refine wq_val (v := .agg #[.int .i32 (IntKind.wrap .i32 v24_0), .int .i32 (IntKind.wrap .i32 v29_0), .int .i32 v15.VX, .int .i32 v15.VY, .int .u8 (100 : Int), .int .u8 v15.Cool, .int .u8 v15.Face]) (val_load tt_ok rfl (List.Mem.head _) rfl) rfl ?_
    replace h := bsome h; obtain ⟨v45, x45, h⟩ := h
    refine wq_cq Tryd.call59 rfl rfl rfl (q_pf (k_step_box x45) (fun _ _ => trivial)) rfl ?_
    refine wq_pure tt_ok rfl rfl ?_
    refine wq_pure tt_ok rfl rfl ?_
    refine wq_pure (v := .int .i64 (IntKind.wrap .i64 ((1 : Int) - p1))) tt_ok rfl rfl ?_
    refine wq_pure tt_ok rfl rfl ?_
    refine wq_pure (v := .pointer (some ⟨p0b, 2, none⟩)) tt_ok rfl rfl ?_
    rcases Bool.eq_false_or_eq_true ((IntKind.wrap .i64 ((1 : Int) - p1)) == (0 : Int)) with hx510 | hx510
    · replace h := ct hx510 h
      refine wq_val (v := .pointer (some ⟨p0b, 2, none⟩)) (val_ia (j := 0) tt_ok rfl rfl rfl rfl (by simpa using hx510) rfl rfl) rfl ?_
      refine wq_val (v := .agg #[.int .i32 p0.Players.1.X, .int .i32 p0.Players.1.Y, .int .i32 p0.Players.1.VX, .int .i32 p0.Players.1.VY, .int .u8 p0.Players.1.Health, .int .u8 p0.Players.1.Cool, .int .u8 p0.Players.1.Face]) (val_load tt_ok rfl (List.Mem.tail _ (List.Mem.tail _ (List.Mem.tail _ (List.Mem.head _)))) rfl) rfl ?_
      replace h := bsome h; obtain ⟨v53, x53, h⟩ := h
      refine wq_cq Tryd.call59 rfl rfl rfl (q_pf (k_step_box x53) (fun _ _ => trivial)) rfl ?_
      replace h := bsome h; obtain ⟨v54, x54, h⟩ := h
      refine wq_cq Tryd.call58 rfl rfl rfl (q_pf (k_geom_Over x54) (fun _ _ => trivial)) rfl ?_
      refine wq_pure (v := .bool (!v54)) tt_ok rfl rfl ?_
      refine wq_nil ?_
      refine wx_then ?_
      replace h := bsome h; obtain ⟨j20_n4, h, hj20⟩ := h
      refine wc_join2 (fun E L => E = [(0, .pointer (some ⟨p0b, 0, none⟩)), (1, .int .i64 p1), (4, .pointer (some ⟨b4, 0, none⟩))] ∧ L = (⟨p0b, [.int .u64 p0.Frame, .int .u64 v29_1.S, .int .i32 p0.Players.1.X, .int .i32 p0.Players.1.Y, .int .i32 p0.Players.1.VX, .int .i32 p0.Players.1.VY, .int .u8 p0.Players.1.Health, .int .u8 p0.Players.1.Cool, .int .u8 p0.Players.1.Face, .int .i32 p0.Players.2.X, .int .i32 p0.Players.2.Y, .int .i32 p0.Players.2.VX, .int .i32 p0.Players.2.VY, .int .u8 p0.Players.2.Health, .int .u8 p0.Players.2.Cool, .int .u8 p0.Players.2.Face, .slice p0a0 p0n0 p0c0, .int .u16 p0.Score.1, .int .u16 p0.Score.2], p0t, (0, 0)⟩ :: (⟨b4, [.int .i32 j20_n4.X, .int .i32 j20_n4.Y, .int .i32 j20_n4.VX, .int .i32 j20_n4.VY, .int .u8 j20_n4.Health, .int .u8 j20_n4.Cool, .int .u8 j20_n4.Face], 30, (0, 0)⟩ :: (p0B0 ++ [])))) ?_ ?_
      · refine wc_cond rfl (fun hc => ?_) (fun hc => ?_)
        · replace h := ct hc h
          refine wc_region ?_
          refine wl_val (v := .agg #[.int .i32 (IntKind.wrap .i32 v24_0), .int .i32 (IntKind.wrap .i32 v29_0), .int .i32 v15.VX, .int .i32 v15.VY, .int .u8 (100 : Int), .int .u8 v15.Cool, .int .u8 v15.Face]) (val_load tt_ok rfl (List.Mem.head _) rfl) rfl ?_
          apply wl_store tt_ok; rfl; exact (Upd.there (Upd.there Upd.here)); rfl; rfl; rfl; rfl; rfl; rfl
          refine wl_nil ?_
          simp only [Option.some.injEq] at h
          obtain rfl := h
          exact wx_join ⟨rfl, rfl⟩ (agree_cons rfl (agree_cons rfl (agree_cons rfl agree_nil))) (pSub (pCons (Sel.sc (Sel.sc (Sel.sc Sel.hc))) (pCons (Sel.sc (Sel.sc Sel.hc)) (pApp (Sel.sc (Sel.sc Sel.ha)) pNil))))
        replace h := cf hc h
        refine wc_skip ?_
        simp only [Option.some.injEq] at h
        obtain rfl := h
        exact wx_join ⟨rfl, rfl⟩ (agree_cons rfl (agree_cons rfl (agree_cons rfl agree_nil))) (pSub (pCons (Sel.sc (Sel.sc (Sel.sc Sel.hc))) (pCons (Sel.sc (Sel.sc Sel.hc)) (pApp (Sel.sc (Sel.sc Sel.ha)) pNil))))
      rintro _ _ ⟨rfl, rfl⟩
      have h := hj20; clear hj20
      refine wc_k2 (Ls := (⟨p0b, [.int .u64 p0.Frame, .int .u64 v29_1.S, .int .i32 p0.Players.1.X, .int .i32 p0.Players.1.Y, .int .i32 p0.Players.1.VX, .int .i32 p0.Players.1.VY, .int .u8 p0.Players.1.Health, .int .u8 p0.Players.1.Cool, .int .u8 p0.Players.1.Face, .int .i32 p0.Players.2.X, .int .i32 p0.Players.2.Y, .int .i32 p0.Players.2.VX, .int .i32 p0.Players.2.VY, .int .u8 p0.Players.2.Health, .int .u8 p0.Players.2.Cool, .int .u8 p0.Players.2.Face, .slice p0a0 p0n0 p0c0, .int .u16 p0.Score.1, .int .u16 p0.Score.2], p0t, (0, 0)⟩ :: (⟨b4, [.int .i32 j20_n4.X, .int .i32 j20_n4.Y, .int .i32 j20_n4.VX, .int .i32 j20_n4.VY, .int .u8 j20_n4.Health, .int .u8 j20_n4.Cool, .int .u8 j20_n4.Face], 30, (0, 0)⟩ :: (p0B0 ++ [])))) [6] [6] [0, 0, 0, 1, 9, 31, 63] [0, 1, 2, 3, 4, 5, 6] (by kernel_rfl) (by kernel_rfl) (by kernel_rfl) ?_
      refine k_val rfl rfl rfl (pSub (pCons Sel.hc (pCons Sel.hc (pApp Sel.ha pNil)))) (stepV_ok tt_ok rfl) rfl ?_
      refine k_val rfl rfl rfl (pSub (pCons Sel.hc (pCons Sel.hc (pApp Sel.ha pNil)))) (stepV_ok tt_ok rfl) rfl ?_
      refine k_val (v := .agg #[.int .i32 j20_n4.X, .int .i32 j20_n4.Y, .int .i32 j20_n4.VX, .int .i32 j20_n4.VY, .int .u8 j20_n4.Health, .int .u8 j20_n4.Cool, .int .u8 j20_n4.Face]) rfl rfl rfl (pSub (pCons Sel.hc (pCons Sel.hc (pApp Sel.ha pNil)))) (val_load tt_ok rfl (List.Mem.tail _ (List.Mem.head _)) rfl) rfl ?_
      refine k_val rfl rfl rfl (pSub (pCons Sel.hc (pCons Sel.hc (pApp Sel.ha pNil)))) (stepV_ok tt_ok rfl) rfl ?_
      refine k_val (v := .pointer (some ⟨p0b, 2, none⟩)) rfl rfl rfl (pSub (pCons Sel.hc (pCons Sel.hc (pApp Sel.ha pNil)))) (stepV_ok tt_ok rfl) rfl ?_
      refine k_val (v := .pointer (some ⟨p0b, 2, none⟩)) rfl rfl rfl (pSub (pCons Sel.hc (pCons Sel.hc (pApp Sel.ha pNil)))) (val_ia (j := 0) tt_ok rfl rfl rfl rfl (by simpa using hx130) rfl rfl) rfl ?_
      refine k_chg0 rfl rfl rfl (chg_store tt_ok rfl Upd.here rfl rfl rfl rfl rfl rfl) (.inl rfl) ?_
      rintro _ _ rfl
      refine k_end (by kernel_rfl) ?_
      simp only [Option.some.injEq] at h
      obtain rfl := h
      exact wx_spD tt_ok (.inr rfl) Tryd.results62 Res.nil ⟨p0a0, p0n0, p0c0, p0B0, p0N0, p0V0, rfl, rfl⟩ (fun F => by simp) (pSub (pCons Sel.hc (pApp (Sel.sc Sel.ha) pNil)))
    replace h := cf hx510 h
    rcases Bool.eq_false_or_eq_true ((IntKind.wrap .i64 ((1 : Int) - p1)) == (1 : Int)) with hx511 | hx511
    · replace h := ct hx511 h
      refine wq_val (v := .pointer (some ⟨p0b, 9, none⟩)) (val_ia (j := 1) tt_ok rfl rfl rfl rfl (by simpa using hx511) rfl rfl) rfl ?_
      refine wq_val (v := .agg #[.int .i32 p0.Players.2.X, .int .i32 p0.Players.2.Y, .int .i32 p0.Players.2.VX, .int .i32 p0.Players.2.VY, .int .u8 p0.Players.2.Health, .int .u8 p0.Players.2.Cool, .int .u8 p0.Players.2.Face]) (val_load tt_ok rfl (List.Mem.tail _ (List.Mem.tail _ (List.Mem.tail _ (List.Mem.head _)))) rfl) rfl ?_
      replace h := bsome h; obtain ⟨v53, x53, h⟩ := h
      refine wq_cq Tryd.call59 rfl rfl rfl (q_pf (k_step_box x53) (fun _ _ => trivial)) rfl ?_
      replace h := bsome h; obtain ⟨v54, x54, h⟩ := h
      refine wq_cq Tryd.call58 rfl rfl rfl (q_pf (k_geom_Over x54) (fun _ _ => trivial)) rfl ?_
      refine wq_pure (v := .bool (!v54)) tt_ok rfl rfl ?_
      refine wq_nil ?_
      refine wx_then ?_
      replace h := bsome h; obtain ⟨j20_n4, h, hj20⟩ := h
      refine wc_join2 (fun E L => E = [(0, .pointer (some ⟨p0b, 0, none⟩)), (1, .int .i64 p1), (4, .pointer (some ⟨b4, 0, none⟩))] ∧ L = (⟨p0b, [.int .u64 p0.Frame, .int .u64 v29_1.S, .int .i32 p0.Players.1.X, .int .i32 p0.Players.1.Y, .int .i32 p0.Players.1.VX, .int .i32 p0.Players.1.VY, .int .u8 p0.Players.1.Health, .int .u8 p0.Players.1.Cool, .int .u8 p0.Players.1.Face, .int .i32 p0.Players.2.X, .int .i32 p0.Players.2.Y, .int .i32 p0.Players.2.VX, .int .i32 p0.Players.2.VY, .int .u8 p0.Players.2.Health, .int .u8 p0.Players.2.Cool, .int .u8 p0.Players.2.Face, .slice p0a0 p0n0 p0c0, .int .u16 p0.Score.1, .int .u16 p0.Score.2], p0t, (0, 0)⟩ :: (⟨b4, [.int .i32 j20_n4.X, .int .i32 j20_n4.Y, .int .i32 j20_n4.VX, .int .i32 j20_n4.VY, .int .u8 j20_n4.Health, .int .u8 j20_n4.Cool, .int .u8 j20_n4.Face], 30, (0, 0)⟩ :: (p0B0 ++ [])))) ?_ ?_
      · refine wc_cond rfl (fun hc => ?_) (fun hc => ?_)
        · replace h := ct hc h
          refine wc_region ?_
          refine wl_val (v := .agg #[.int .i32 (IntKind.wrap .i32 v24_0), .int .i32 (IntKind.wrap .i32 v29_0), .int .i32 v15.VX, .int .i32 v15.VY, .int .u8 (100 : Int), .int .u8 v15.Cool, .int .u8 v15.Face]) (val_load tt_ok rfl (List.Mem.head _) rfl) rfl ?_
          apply wl_store tt_ok; rfl; exact (Upd.there (Upd.there Upd.here)); rfl; rfl; rfl; rfl; rfl; rfl
          refine wl_nil ?_
          simp only [Option.some.injEq] at h
          obtain rfl := h
          exact wx_join ⟨rfl, rfl⟩ (agree_cons rfl (agree_cons rfl (agree_cons rfl agree_nil))) (pSub (pCons (Sel.sc (Sel.sc (Sel.sc Sel.hc))) (pCons (Sel.sc (Sel.sc Sel.hc)) (pApp (Sel.sc (Sel.sc Sel.ha)) pNil))))
        replace h := cf hc h
        refine wc_skip ?_
        simp only [Option.some.injEq] at h
        obtain rfl := h
        exact wx_join ⟨rfl, rfl⟩ (agree_cons rfl (agree_cons rfl (agree_cons rfl agree_nil))) (pSub (pCons (Sel.sc (Sel.sc (Sel.sc Sel.hc))) (pCons (Sel.sc (Sel.sc Sel.hc)) (pApp (Sel.sc (Sel.sc Sel.ha)) pNil))))
      rintro _ _ ⟨rfl, rfl⟩
      have h := hj20; clear hj20
      refine wc_k2 (Ls := (⟨p0b, [.int .u64 p0.Frame, .int .u64 v29_1.S, .int .i32 p0.Players.1.X, .int .i32 p0.Players.1.Y, .int .i32 p0.Players.1.VX, .int .i32 p0.Players.1.VY, .int .u8 p0.Players.1.Health, .int .u8 p0.Players.1.Cool, .int .u8 p0.Players.1.Face, .int .i32 p0.Players.2.X, .int .i32 p0.Players.2.Y, .int .i32 p0.Players.2.VX, .int .i32 p0.Players.2.VY, .int .u8 p0.Players.2.Health, .int .u8 p0.Players.2.Cool, .int .u8 p0.Players.2.Face, .slice p0a0 p0n0 p0c0, .int .u16 p0.Score.1, .int .u16 p0.Score.2], p0t, (0, 0)⟩ :: (⟨b4, [.int .i32 j20_n4.X, .int .i32 j20_n4.Y, .int .i32 j20_n4.VX, .int .i32 j20_n4.VY, .int .u8 j20_n4.Health, .int .u8 j20_n4.Cool, .int .u8 j20_n4.Face], 30, (0, 0)⟩ :: (p0B0 ++ [])))) [6] [6] [0, 0, 0, 1, 9, 31, 63] [0, 1, 2, 3, 4, 5, 6] (by kernel_rfl) (by kernel_rfl) (by kernel_rfl) ?_
      refine k_val rfl rfl rfl (pSub (pCons Sel.hc (pCons Sel.hc (pApp Sel.ha pNil)))) (stepV_ok tt_ok rfl) rfl ?_
      refine k_val rfl rfl rfl (pSub (pCons Sel.hc (pCons Sel.hc (pApp Sel.ha pNil)))) (stepV_ok tt_ok rfl) rfl ?_
      refine k_val (v := .agg #[.int .i32 j20_n4.X, .int .i32 j20_n4.Y, .int .i32 j20_n4.VX, .int .i32 j20_n4.VY, .int .u8 j20_n4.Health, .int .u8 j20_n4.Cool, .int .u8 j20_n4.Face]) rfl rfl rfl (pSub (pCons Sel.hc (pCons Sel.hc (pApp Sel.ha pNil)))) (val_load tt_ok rfl (List.Mem.tail _ (List.Mem.head _)) rfl) rfl ?_
      refine k_val rfl rfl rfl (pSub (pCons Sel.hc (pCons Sel.hc (pApp Sel.ha pNil)))) (stepV_ok tt_ok rfl) rfl ?_
      refine k_val (v := .pointer (some ⟨p0b, 2, none⟩)) rfl rfl rfl (pSub (pCons Sel.hc (pCons Sel.hc (pApp Sel.ha pNil)))) (stepV_ok tt_ok rfl) rfl ?_
      refine k_val (v := .pointer (some ⟨p0b, 2, none⟩)) rfl rfl rfl (pSub (pCons Sel.hc (pCons Sel.hc (pApp Sel.ha pNil)))) (val_ia (j := 0) tt_ok rfl rfl rfl rfl (by simpa using hx130) rfl rfl) rfl ?_
      refine k_chg0 rfl rfl rfl (chg_store tt_ok rfl Upd.here rfl rfl rfl rfl rfl rfl) (.inl rfl) ?_
      rintro _ _ rfl
      refine k_end (by kernel_rfl) ?_
      simp only [Option.some.injEq] at h
      obtain rfl := h
      exact wx_spD tt_ok (.inr rfl) Tryd.results62 Res.nil ⟨p0a0, p0n0, p0c0, p0B0, p0N0, p0V0, rfl, rfl⟩ (fun F => by simp) (pSub (pCons Sel.hc (pApp (Sel.sc Sel.ha) pNil)))
    replace h := cf hx511 h
    cases h
  replace h := cf hx130 h
  rcases Bool.eq_false_or_eq_true (p1 == (1 : Int)) with hx131 | hx131
  · replace h := ct hx131 h
    refine wl_val (v := .pointer (some ⟨p0b, 9, none⟩)) (val_ia (j := 1) tt_ok rfl rfl rfl rfl (by simpa using hx131) rfl rfl) rfl ?_
    refine wl_val (v := .agg #[.int .i32 p0.Players.2.X, .int .i32 p0.Players.2.Y, .int .i32 p0.Players.2.VX, .int .i32 p0.Players.2.VY, .int .u8 p0.Players.2.Health, .int .u8 p0.Players.2.Cool, .int .u8 p0.Players.2.Face]) (val_load tt_ok rfl (List.Mem.head _) rfl) rfl ?_
    replace h := bsome h; obtain ⟨v15, x15, h⟩ := h
    refine wl_cq Tryd.call60 rfl rfl rfl (q_pf (k_step_stopped x15) (fun _ _ => trivial)) rfl ?_
    refine wl_alloc tt_ok rfl rfl (fun b4 => ?_)
    apply wl_store tt_ok; rfl; exact Upd.here; rfl; rfl; rfl; rfl; rfl; rfl
    refine wl_nil (wx_then (wc_seq (wc_region ?_)))
    refine wl_pure (v := .pointer (some ⟨b4, 4, none⟩)) tt_ok rfl rfl ?_
    apply wl_store tt_ok; rfl; exact Upd.here; rfl; rfl; rfl; rfl; rfl; rfl
    refine wl_nil (wx_then (wc_seq (wc_region ?_)))
    iterate 2 refine wl_pure tt_ok rfl rfl ?_
    refine wl_pure (v := .pointer (some ⟨p0b, 1, none⟩)) tt_ok rfl rfl ?_
    refine wl_val (v := .int .u64 p0.Seed) (val_load tt_ok rfl (List.Mem.tail _ (List.Mem.head _)) rfl) rfl ?_
    refine wl_pure (v := .agg #[.int .u64 p0.Seed]) tt_ok rfl rfl ?_
    refine wl_alloc tt_ok rfl rfl (fun b5 => ?_)
    apply wl_store tt_ok; rfl; exact Upd.here; rfl; rfl; rfl; rfl; rfl; rfl
    refine wl_nil (wx_then (wc_seq (wc_region ?_)))
    refine wl_val (v := .agg #[.int .u64 p0.Seed]) (val_load tt_ok rfl (List.Mem.head _) rfl) rfl ?_
    replace h := bsome h; obtain ⟨⟨v24_0, v24_1⟩, x24, h⟩ := h; try dsimp only at h
    refine wl_cq Tryd.call73 rfl rfl rfl (q_pf (k_rng_Source_Below x24) (fun _ _ => trivial)) rfl ?_
    iterate 4 refine wl_pure tt_ok rfl rfl ?_
    apply wl_store tt_ok; rfl; exact Upd.here; rfl; rfl; rfl; rfl; rfl; rfl
    refine wl_nil (wx_then (wc_seq (wc_region ?_)))
    refine wl_val (v := .agg #[.int .u64 v24_1.S]) (val_load tt_ok rfl (List.Mem.head _) rfl) rfl ?_
    replace h := bsome h; obtain ⟨⟨v29_0, v29_1⟩, x29, h⟩ := h; try dsimp only at h
    refine wl_cq Tryd.call73 rfl rfl rfl (q_pf (k_rng_Source_Below x29) (fun _ _ => trivial)) rfl ?_
    iterate 4 refine wl_pure tt_ok rfl rfl ?_
    apply wl_store tt_ok; rfl; exact Upd.here; rfl; rfl; rfl; rfl; rfl; rfl
    refine wl_nil (wx_then (wc_seq (wc_region ?_)))
    refine wl_pure tt_ok rfl rfl ?_
    refine wl_pure (v := .pointer (some ⟨b5, 0, none⟩)) tt_ok rfl rfl ?_
    refine wl_val (v := .int .u64 v29_1.S) (val_load tt_ok rfl (List.Mem.head _) rfl) rfl ?_
    refine wl_pure tt_ok rfl rfl ?_
    refine wl_pure (v := .pointer (some ⟨p0b, 1, none⟩)) tt_ok rfl rfl ?_
    apply wl_store tt_ok; rfl; exact (Upd.there (Upd.there Upd.here)); rfl; rfl; rfl; rfl; rfl; rfl
    refine wl_nil (wx_then (wc_seq (wc_region ?_)))
    refine wl_val (v := .agg #[.int .i32 v15.X, .int .i32 v15.Y, .int .i32 v15.VX, .int .i32 v15.VY, .int .u8 (100 : Int), .int .u8 v15.Cool, .int .u8 v15.Face]) (val_load tt_ok rfl (List.Mem.tail _ (List.Mem.head _)) rfl) rfl ?_
    refine wl_alloc tt_ok rfl rfl (fun b8 => ?_)
    apply wl_store tt_ok; rfl; exact Upd.here; rfl; rfl; rfl; rfl; rfl; rfl
    refine wl_nil (wx_then (wc_seq (wc_region ?_)))
    refine wl_pure tt_ok rfl rfl ?_
    refine wl_pure (v := .int .i32 (IntKind.wrap .i32 v24_0)) tt_ok rfl rfl ?_
    refine wl_pure tt_ok rfl rfl ?_
    refine wl_pure (v := .int .i32 (IntKind.wrap .i32 v29_0)) tt_ok rfl rfl ?_
    refine wl_pure (v := .pointer (some ⟨b8, 0, none⟩)) tt_ok rfl rfl ?_
    apply wl_store tt_ok; rfl; exact Upd.here; rfl; rfl; rfl; rfl; rfl; rfl
    refine wl_pure (v := .pointer (some ⟨b8, 1, none⟩)) tt_ok rfl rfl ?_
    apply wl_store tt_ok; rfl; exact Upd.here; rfl; rfl; rfl; rfl; rfl; rfl
    refine wl_nil (wx_then (wc_seq (wc_seq ?_)))
    refine wc_quiet (by kernel_rfl) (by kernel_rfl) ?_
    refine wq_val (v := .agg #[.int .i32 (IntKind.wrap .i32 v24_0), .int .i32 (IntKind.wrap .i32 v29_0), .int .i32 v15.VX, .int .i32 v15.VY, .int .u8 (100 : Int), .int .u8 v15.Cool, .int .u8 v15.Face]) (val_load tt_ok rfl (List.Mem.head _) rfl) rfl ?_
    replace h := bsome h; obtain ⟨v45, x45, h⟩ := h
    refine wq_cq Tryd.call59 rfl rfl rfl (q_pf (k_step_box x45) (fun _ _ => trivial)) rfl ?_
    refine wq_pure tt_ok rfl rfl ?_
    refine wq_pure tt_ok rfl rfl ?_
    refine wq_pure (v := .int .i64 (IntKind.wrap .i64 ((1 : Int) - p1))) tt_ok rfl rfl ?_
    refine wq_pure tt_ok rfl rfl ?_
    refine wq_pure (v := .pointer (some ⟨p0b, 2, none⟩)) tt_ok rfl rfl ?_
    rcases Bool.eq_false_or_eq_true ((IntKind.wrap .i64 ((1 : Int) - p1)) == (0 : Int)) with hx510 | hx510
    · replace h := ct hx510 h
      refine wq_val (v := .pointer (some ⟨p0b, 2, none⟩)) (val_ia (j := 0) tt_ok rfl rfl rfl rfl (by simpa using hx510) rfl rfl) rfl ?_
      refine wq_val (v := .agg #[.int .i32 p0.Players.1.X, .int .i32 p0.Players.1.Y, .int .i32 p0.Players.1.VX, .int .i32 p0.Players.1.VY, .int .u8 p0.Players.1.Health, .int .u8 p0.Players.1.Cool, .int .u8 p0.Players.1.Face]) (val_load tt_ok rfl (List.Mem.tail _ (List.Mem.tail _ (List.Mem.tail _ (List.Mem.head _)))) rfl) rfl ?_
      replace h := bsome h; obtain ⟨v53, x53, h⟩ := h
      refine wq_cq Tryd.call59 rfl rfl rfl (q_pf (k_step_box x53) (fun _ _ => trivial)) rfl ?_
      replace h := bsome h; obtain ⟨v54, x54, h⟩ := h
      refine wq_cq Tryd.call58 rfl rfl rfl (q_pf (k_geom_Over x54) (fun _ _ => trivial)) rfl ?_
      refine wq_pure (v := .bool (!v54)) tt_ok rfl rfl ?_
      refine wq_nil ?_
      refine wx_then ?_
      replace h := bsome h; obtain ⟨j20_n4, h, hj20⟩ := h
      refine wc_join2 (fun E L => E = [(0, .pointer (some ⟨p0b, 0, none⟩)), (1, .int .i64 p1), (4, .pointer (some ⟨b4, 0, none⟩))] ∧ L = (⟨p0b, [.int .u64 p0.Frame, .int .u64 v29_1.S, .int .i32 p0.Players.1.X, .int .i32 p0.Players.1.Y, .int .i32 p0.Players.1.VX, .int .i32 p0.Players.1.VY, .int .u8 p0.Players.1.Health, .int .u8 p0.Players.1.Cool, .int .u8 p0.Players.1.Face, .int .i32 p0.Players.2.X, .int .i32 p0.Players.2.Y, .int .i32 p0.Players.2.VX, .int .i32 p0.Players.2.VY, .int .u8 p0.Players.2.Health, .int .u8 p0.Players.2.Cool, .int .u8 p0.Players.2.Face, .slice p0a0 p0n0 p0c0, .int .u16 p0.Score.1, .int .u16 p0.Score.2], p0t, (0, 0)⟩ :: (⟨b4, [.int .i32 j20_n4.X, .int .i32 j20_n4.Y, .int .i32 j20_n4.VX, .int .i32 j20_n4.VY, .int .u8 j20_n4.Health, .int .u8 j20_n4.Cool, .int .u8 j20_n4.Face], 30, (0, 0)⟩ :: (p0B0 ++ [])))) ?_ ?_
      · refine wc_cond rfl (fun hc => ?_) (fun hc => ?_)
        · replace h := ct hc h
          refine wc_region ?_
          refine wl_val (v := .agg #[.int .i32 (IntKind.wrap .i32 v24_0), .int .i32 (IntKind.wrap .i32 v29_0), .int .i32 v15.VX, .int .i32 v15.VY, .int .u8 (100 : Int), .int .u8 v15.Cool, .int .u8 v15.Face]) (val_load tt_ok rfl (List.Mem.head _) rfl) rfl ?_
          apply wl_store tt_ok; rfl; exact (Upd.there (Upd.there Upd.here)); rfl; rfl; rfl; rfl; rfl; rfl
          refine wl_nil ?_
          simp only [Option.some.injEq] at h
          obtain rfl := h
          exact wx_join ⟨rfl, rfl⟩ (agree_cons rfl (agree_cons rfl (agree_cons rfl agree_nil))) (pSub (pCons (Sel.sc (Sel.sc (Sel.sc Sel.hc))) (pCons (Sel.sc (Sel.sc Sel.hc)) (pApp (Sel.sc (Sel.sc Sel.ha)) pNil))))
        replace h := cf hc h
        refine wc_skip ?_
        simp only [Option.some.injEq] at h
        obtain rfl := h
        exact wx_join ⟨rfl, rfl⟩ (agree_cons rfl (agree_cons rfl (agree_cons rfl agree_nil))) (pSub (pCons (Sel.sc (Sel.sc (Sel.sc Sel.hc))) (pCons (Sel.sc (Sel.sc Sel.hc)) (pApp (Sel.sc (Sel.sc Sel.ha)) pNil))))
      rintro _ _ ⟨rfl, rfl⟩
      have h := hj20; clear hj20
      refine wc_k2 (Ls := (⟨p0b, [.int .u64 p0.Frame, .int .u64 v29_1.S, .int .i32 p0.Players.1.X, .int .i32 p0.Players.1.Y, .int .i32 p0.Players.1.VX, .int .i32 p0.Players.1.VY, .int .u8 p0.Players.1.Health, .int .u8 p0.Players.1.Cool, .int .u8 p0.Players.1.Face, .int .i32 p0.Players.2.X, .int .i32 p0.Players.2.Y, .int .i32 p0.Players.2.VX, .int .i32 p0.Players.2.VY, .int .u8 p0.Players.2.Health, .int .u8 p0.Players.2.Cool, .int .u8 p0.Players.2.Face, .slice p0a0 p0n0 p0c0, .int .u16 p0.Score.1, .int .u16 p0.Score.2], p0t, (0, 0)⟩ :: (⟨b4, [.int .i32 j20_n4.X, .int .i32 j20_n4.Y, .int .i32 j20_n4.VX, .int .i32 j20_n4.VY, .int .u8 j20_n4.Health, .int .u8 j20_n4.Cool, .int .u8 j20_n4.Face], 30, (0, 0)⟩ :: (p0B0 ++ [])))) [6] [6] [0, 0, 0, 1, 9, 31, 63] [0, 1, 2, 3, 4, 5, 6] (by kernel_rfl) (by kernel_rfl) (by kernel_rfl) ?_
      refine k_val rfl rfl rfl (pSub (pCons Sel.hc (pCons Sel.hc (pApp Sel.ha pNil)))) (stepV_ok tt_ok rfl) rfl ?_
      refine k_val rfl rfl rfl (pSub (pCons Sel.hc (pCons Sel.hc (pApp Sel.ha pNil)))) (stepV_ok tt_ok rfl) rfl ?_
      refine k_val (v := .agg #[.int .i32 j20_n4.X, .int .i32 j20_n4.Y, .int .i32 j20_n4.VX, .int .i32 j20_n4.VY, .int .u8 j20_n4.Health, .int .u8 j20_n4.Cool, .int .u8 j20_n4.Face]) rfl rfl rfl (pSub (pCons Sel.hc (pCons Sel.hc (pApp Sel.ha pNil)))) (val_load tt_ok rfl (List.Mem.tail _ (List.Mem.head _)) rfl) rfl ?_
      refine k_val rfl rfl rfl (pSub (pCons Sel.hc (pCons Sel.hc (pApp Sel.ha pNil)))) (stepV_ok tt_ok rfl) rfl ?_
      refine k_val (v := .pointer (some ⟨p0b, 2, none⟩)) rfl rfl rfl (pSub (pCons Sel.hc (pCons Sel.hc (pApp Sel.ha pNil)))) (stepV_ok tt_ok rfl) rfl ?_
      refine k_val (v := .pointer (some ⟨p0b, 9, none⟩)) rfl rfl rfl (pSub (pCons Sel.hc (pCons Sel.hc (pApp Sel.ha pNil)))) (val_ia (j := 1) tt_ok rfl rfl rfl rfl (by simpa using hx131) rfl rfl) rfl ?_
      refine k_chg0 rfl rfl rfl (chg_store tt_ok rfl Upd.here rfl rfl rfl rfl rfl rfl) (.inl rfl) ?_
      rintro _ _ rfl
      refine k_end (by kernel_rfl) ?_
      simp only [Option.some.injEq] at h
      obtain rfl := h
      exact wx_spD tt_ok (.inr rfl) Tryd.results62 Res.nil ⟨p0a0, p0n0, p0c0, p0B0, p0N0, p0V0, rfl, rfl⟩ (fun F => by simp) (pSub (pCons Sel.hc (pApp (Sel.sc Sel.ha) pNil)))
    replace h := cf hx510 h
    rcases Bool.eq_false_or_eq_true ((IntKind.wrap .i64 ((1 : Int) - p1)) == (1 : Int)) with hx511 | hx511
    · replace h := ct hx511 h
      refine wq_val (v := .pointer (some ⟨p0b, 9, none⟩)) (val_ia (j := 1) tt_ok rfl rfl rfl rfl (by simpa using hx511) rfl rfl) rfl ?_
      refine wq_val (v := .agg #[.int .i32 p0.Players.2.X, .int .i32 p0.Players.2.Y, .int .i32 p0.Players.2.VX, .int .i32 p0.Players.2.VY, .int .u8 p0.Players.2.Health, .int .u8 p0.Players.2.Cool, .int .u8 p0.Players.2.Face]) (val_load tt_ok rfl (List.Mem.tail _ (List.Mem.tail _ (List.Mem.tail _ (List.Mem.head _)))) rfl) rfl ?_
      replace h := bsome h; obtain ⟨v53, x53, h⟩ := h
      refine wq_cq Tryd.call59 rfl rfl rfl (q_pf (k_step_box x53) (fun _ _ => trivial)) rfl ?_
      replace h := bsome h; obtain ⟨v54, x54, h⟩ := h
      refine wq_cq Tryd.call58 rfl rfl rfl (q_pf (k_geom_Over x54) (fun _ _ => trivial)) rfl ?_
      refine wq_pure (v := .bool (!v54)) tt_ok rfl rfl ?_
      refine wq_nil ?_
      refine wx_then ?_
      replace h := bsome h; obtain ⟨j20_n4, h, hj20⟩ := h
      refine wc_join2 (fun E L => E = [(0, .pointer (some ⟨p0b, 0, none⟩)), (1, .int .i64 p1), (4, .pointer (some ⟨b4, 0, none⟩))] ∧ L = (⟨p0b, [.int .u64 p0.Frame, .int .u64 v29_1.S, .int .i32 p0.Players.1.X, .int .i32 p0.Players.1.Y, .int .i32 p0.Players.1.VX, .int .i32 p0.Players.1.VY, .int .u8 p0.Players.1.Health, .int .u8 p0.Players.1.Cool, .int .u8 p0.Players.1.Face, .int .i32 p0.Players.2.X, .int .i32 p0.Players.2.Y, .int .i32 p0.Players.2.VX, .int .i32 p0.Players.2.VY, .int .u8 p0.Players.2.Health, .int .u8 p0.Players.2.Cool, .int .u8 p0.Players.2.Face, .slice p0a0 p0n0 p0c0, .int .u16 p0.Score.1, .int .u16 p0.Score.2], p0t, (0, 0)⟩ :: (⟨b4, [.int .i32 j20_n4.X, .int .i32 j20_n4.Y, .int .i32 j20_n4.VX, .int .i32 j20_n4.VY, .int .u8 j20_n4.Health, .int .u8 j20_n4.Cool, .int .u8 j20_n4.Face], 30, (0, 0)⟩ :: (p0B0 ++ [])))) ?_ ?_
      · refine wc_cond rfl (fun hc => ?_) (fun hc => ?_)
        · replace h := ct hc h
          refine wc_region ?_
          refine wl_val (v := .agg #[.int .i32 (IntKind.wrap .i32 v24_0), .int .i32 (IntKind.wrap .i32 v29_0), .int .i32 v15.VX, .int .i32 v15.VY, .int .u8 (100 : Int), .int .u8 v15.Cool, .int .u8 v15.Face]) (val_load tt_ok rfl (List.Mem.head _) rfl) rfl ?_
          apply wl_store tt_ok; rfl; exact (Upd.there (Upd.there Upd.here)); rfl; rfl; rfl; rfl; rfl; rfl
          refine wl_nil ?_
          simp only [Option.some.injEq] at h
          obtain rfl := h
          exact wx_join ⟨rfl, rfl⟩ (agree_cons rfl (agree_cons rfl (agree_cons rfl agree_nil))) (pSub (pCons (Sel.sc (Sel.sc (Sel.sc Sel.hc))) (pCons (Sel.sc (Sel.sc Sel.hc)) (pApp (Sel.sc (Sel.sc Sel.ha)) pNil))))
        replace h := cf hc h
        refine wc_skip ?_
        simp only [Option.some.injEq] at h
        obtain rfl := h
        exact wx_join ⟨rfl, rfl⟩ (agree_cons rfl (agree_cons rfl (agree_cons rfl agree_nil))) (pSub (pCons (Sel.sc (Sel.sc (Sel.sc Sel.hc))) (pCons (Sel.sc (Sel.sc Sel.hc)) (pApp (Sel.sc (Sel.sc Sel.ha)) pNil))))
      rintro _ _ ⟨rfl, rfl⟩
      have h := hj20; clear hj20
      refine wc_k2 (Ls := (⟨p0b, [.int .u64 p0.Frame, .int .u64 v29_1.S, .int .i32 p0.Players.1.X, .int .i32 p0.Players.1.Y, .int .i32 p0.Players.1.VX, .int .i32 p0.Players.1.VY, .int .u8 p0.Players.1.Health, .int .u8 p0.Players.1.Cool, .int .u8 p0.Players.1.Face, .int .i32 p0.Players.2.X, .int .i32 p0.Players.2.Y, .int .i32 p0.Players.2.VX, .int .i32 p0.Players.2.VY, .int .u8 p0.Players.2.Health, .int .u8 p0.Players.2.Cool, .int .u8 p0.Players.2.Face, .slice p0a0 p0n0 p0c0, .int .u16 p0.Score.1, .int .u16 p0.Score.2], p0t, (0, 0)⟩ :: (⟨b4, [.int .i32 j20_n4.X, .int .i32 j20_n4.Y, .int .i32 j20_n4.VX, .int .i32 j20_n4.VY, .int .u8 j20_n4.Health, .int .u8 j20_n4.Cool, .int .u8 j20_n4.Face], 30, (0, 0)⟩ :: (p0B0 ++ [])))) [6] [6] [0, 0, 0, 1, 9, 31, 63] [0, 1, 2, 3, 4, 5, 6] (by kernel_rfl) (by kernel_rfl) (by kernel_rfl) ?_
      refine k_val rfl rfl rfl (pSub (pCons Sel.hc (pCons Sel.hc (pApp Sel.ha pNil)))) (stepV_ok tt_ok rfl) rfl ?_
      refine k_val rfl rfl rfl (pSub (pCons Sel.hc (pCons Sel.hc (pApp Sel.ha pNil)))) (stepV_ok tt_ok rfl) rfl ?_
      refine k_val (v := .agg #[.int .i32 j20_n4.X, .int .i32 j20_n4.Y, .int .i32 j20_n4.VX, .int .i32 j20_n4.VY, .int .u8 j20_n4.Health, .int .u8 j20_n4.Cool, .int .u8 j20_n4.Face]) rfl rfl rfl (pSub (pCons Sel.hc (pCons Sel.hc (pApp Sel.ha pNil)))) (val_load tt_ok rfl (List.Mem.tail _ (List.Mem.head _)) rfl) rfl ?_
      refine k_val rfl rfl rfl (pSub (pCons Sel.hc (pCons Sel.hc (pApp Sel.ha pNil)))) (stepV_ok tt_ok rfl) rfl ?_
      refine k_val (v := .pointer (some ⟨p0b, 2, none⟩)) rfl rfl rfl (pSub (pCons Sel.hc (pCons Sel.hc (pApp Sel.ha pNil)))) (stepV_ok tt_ok rfl) rfl ?_
      refine k_val (v := .pointer (some ⟨p0b, 9, none⟩)) rfl rfl rfl (pSub (pCons Sel.hc (pCons Sel.hc (pApp Sel.ha pNil)))) (val_ia (j := 1) tt_ok rfl rfl rfl rfl (by simpa using hx131) rfl rfl) rfl ?_
      refine k_chg0 rfl rfl rfl (chg_store tt_ok rfl Upd.here rfl rfl rfl rfl rfl rfl) (.inl rfl) ?_
      rintro _ _ rfl
      refine k_end (by kernel_rfl) ?_
      simp only [Option.some.injEq] at h
      obtain rfl := h
      exact wx_spD tt_ok (.inr rfl) Tryd.results62 Res.nil ⟨p0a0, p0n0, p0c0, p0B0, p0N0, p0V0, rfl, rfl⟩ (fun F => by simp) (pSub (pCons Sel.hc (pApp (Sel.sc Sel.ha) pNil)))
    replace h := cf hx511 h
    cases h
  replace h := cf hx131 h
  cases h

end Go.Proofs.YtkekgagekgadmaaDoor
