/-
  Each function computes what its model says. Printed by a program of this claim's own.
-/
import Derived.Test.YtgnddjlbhfoioaaDoorTab
import Derived.Test.YtgnddjlbhfoioaaDoorMod
import Derived.Test.YtgnddjlbhfoioaaDoorWalk1
namespace Go.Proofs.YtgnddjlbhfoioaaDoor
open Go.Proofs.YtgnddjlbhfoioaaDoor.Eng
set_option linter.unusedVariables false
set_option linter.unusedSimpArgs false
set_option maxHeartbeats 4000000
set_option maxRecDepth 20000

theorem k_hindcastref08_Put {F : Nat} {p0 : T_api_State} {p0a0 : Option Addr} {p0n0 p0c0 : Nat} {r0 : (List UInt8)} (p0N0 : p0n0 = p0.Shots.length) (p0H0 : p0n0 ≤ p0c0) (h : m_hindcastref08_Put F p0 = some r0) :
    Pf Tryd.prog 20 [.agg #[.int .u64 p0.Frame, .int .u64 p0.Seed, .int .i32 p0.Players.1.X, .int .i32 p0.Players.1.Y, .int .i32 p0.Players.1.VX, .int .i32 p0.Players.1.VY, .int .u8 p0.Players.1.Health, .int .u8 p0.Players.1.Cool, .int .u8 p0.Players.1.Face, .int .i32 p0.Players.2.X, .int .i32 p0.Players.2.Y, .int .i32 p0.Players.2.VX, .int .i32 p0.Players.2.VY, .int .u8 p0.Players.2.Health, .int .u8 p0.Players.2.Cool, .int .u8 p0.Players.2.Face, .slice p0a0 p0n0 p0c0, .int .u16 p0.Score.1, .int .u16 p0.Score.2]] (fun w => Rds w [] [] p0a0 (flat c_T_api_Shot p0.Shots)) (.string ⟨r0.toArray⟩) := by
  unfold m_hindcastref08_Put at h
  refine pf_of_wc Tryd.func20 rfl Tryd.ntmps20 rfl rfl (fun w0 hR => ?_)
  have p0S0 := hR
  refine wc_seq ?_
  refine wc_region ?_
  refine wl_box rfl rfl rfl (fun b1 => ?_)
  refine wl_pure tt_ok rfl rfl ?_
  refine wl_nil ?_
  refine wx_then ?_
  refine wc_seq ?_
  refine wc_seq ?_
  refine wc_region ?_
  refine wl_val (v := .agg #[.int .u64 p0.Frame, .int .u64 p0.Seed, .int .i32 p0.Players.1.X, .int .i32 p0.Players.1.Y, .int .i32 p0.Players.1.VX, .int .i32 p0.Players.1.VY, .int .u8 p0.Players.1.Health, .int .u8 p0.Players.1.Cool, .int .u8 p0.Players.1.Face, .int .i32 p0.Players.2.X, .int .i32 p0.Players.2.Y, .int .i32 p0.Players.2.VX, .int .i32 p0.Players.2.VY, .int .u8 p0.Players.2.Health, .int .u8 p0.Players.2.Cool, .int .u8 p0.Players.2.Face, .slice p0a0 p0n0 p0c0, .int .u16 p0.Score.1, .int .u16 p0.Score.2]) (val_load tt_ok rfl (List.Mem.head _) rfl) rfl ?_
  replace h := bsome h; obtain ⟨v9, x9, h⟩ := h
  refine wl_cq Tryd.call30 rfl rfl rfl (q_pf (k_hindcastref08_Check (p0 := p0) p0N0 p0H0 x9) (Rds.call p0S0 pNil rsub_nil)) rfl ?_
  refine wl_pure (v := .bool (v9 != (0 : Int))) tt_ok rfl rfl ?_
  refine wl_nil ?_
  refine wx_then ?_
  refine wc_cond rfl (fun hc => ?_) (fun hc => ?_)
  · replace h := ct hc h
    refine wc_seq ?_
    refine wc_region ?_
    refine wl_pure tt_ok rfl rfl ?_
    refine wl_nil ?_
    refine wx_then ?_
    refine wc_ret ?_
    refine wx_then_ret ?_
    simp only [Option.some.injEq] at h
    obtain rfl := h
    exact wx_pf tt_ok (.inl rfl) Tryd.results20 (Res.tmp rfl Res.nil) rfl
  replace h := cf hc h
  refine wc_skip ?_
  refine wx_then ?_
  refine wc_seq ?_
  refine wc_quiet (by kernel_rfl) (by kernel_rfl) ?_
  refine wq_pure (v := .pointer (some ⟨b1, 0, none⟩)) tt_ok rfl rfl ?_
  refine wq_val (v := .int .u64 p0.Frame) (val_load tt_ok rfl (List.Mem.head _) rfl) rfl ?_
  replace h := bsome h; obtain ⟨v13, x13, h⟩ := h
  refine wq_cq Tryd.call31 rfl rfl rfl (q_pf (k_hindcastref02_Number x13) (fun _ _ => trivial)) rfl ?_
  refine wq_pure (v := .pointer (some ⟨b1, 1, none⟩)) tt_ok rfl rfl ?_
  refine wq_val (v := .int .u64 p0.Seed) (val_load tt_ok rfl (List.Mem.head _) rfl) rfl ?_
  replace h := bsome h; obtain ⟨v16, x16, h⟩ := h
  refine wq_cq Tryd.call31 rfl rfl rfl (q_pf (k_hindcastref02_Number x16) (fun _ _ => trivial)) rfl ?_
  replace h := bsome h; obtain ⟨v17, x17, h⟩ := h
  refine wq_val (v := .string ⟨v17.toArray⟩) (val_cat tt_ok rfl rfl x17) rfl ?_
  refine wq_pure tt_ok rfl rfl ?_
  refine wq_nil ?_
  refine wx_then ?_
  refine wc_seq ?_
  refine wc_seq ?_
  refine wc_region ?_
  refine wl_pure tt_ok rfl rfl ?_
  refine wl_nil ?_
  refine wx_then ?_
  refine wc_block ?_
  replace h := bsome h; obtain ⟨l17_3, h, hl17⟩ := h
  refine wc_loop (fun m E L => ∃ (j17_3 : (List UInt8)) (j17_4 : Int), m_hindcastref08_Put_L16 F p0 m j17_3 j17_4 = some l17_3 ∧ E = [(1, .pointer (some ⟨b1, 0, none⟩)), (2, .string ⟨([] : List UInt8).toArray⟩), (3, .string ⟨j17_3.toArray⟩), (4, .int .i64 j17_4)] ∧ L = (⟨b1, [.int .u64 p0.Frame, .int .u64 p0.Seed, .int .i32 p0.Players.1.X, .int .i32 p0.Players.1.Y, .int .i32 p0.Players.1.VX, .int .i32 p0.Players.1.VY, .int .u8 p0.Players.1.Health, .int .u8 p0.Players.1.Cool, .int .u8 p0.Players.1.Face, .int .i32 p0.Players.2.X, .int .i32 p0.Players.2.Y, .int .i32 p0.Players.2.VX, .int .i32 p0.Players.2.VY, .int .u8 p0.Players.2.Health, .int .u8 p0.Players.2.Cool, .int .u8 p0.Players.2.Face, .slice p0a0 p0n0 p0c0, .int .u16 p0.Score.1, .int .u16 p0.Score.2], 30, (0, 0)⟩ :: [])) F ⟨v17, (0 : Int), h, rfl, rfl⟩ (agree_cons rfl (agree_cons rfl (agree_cons rfl (agree_cons rfl agree_nil)))) (pSub (pCons Sel.hc pNil)) ?_
  clear h
  rintro m17 _ _ ⟨j17_3, j17_4, h, rfl, rfl⟩
  rcases m17 with _ | m17
  · rw [m_hindcastref08_Put_L16.eq_1] at h; cases h
  rw [m_hindcastref08_Put_L16.eq_2] at h
  refine wc_seq ?_
  refine wc_seq ?_
  refine wc_region ?_
  refine wl_pure tt_ok rfl rfl ?_
  refine wl_pure (v := .bool (decide (j17_4 < (2 : Int)))) tt_ok rfl rfl ?_
  refine wl_nil ?_
  refine wx_then ?_
  refine wc_cond rfl (fun hc => ?_) (fun hc => ?_)
  · replace h := ct hc h
    refine wc_skip ?_
    refine wx_then ?_
    refine wc_seq ?_
    refine wc_block ?_
    refine wc_seq ?_
    refine wc_region ?_
    refine wl_pure tt_ok rfl rfl ?_
    refine wl_pure (v := .pointer (some ⟨b1, 2, none⟩)) tt_ok rfl rfl ?_
    rcases Bool.eq_false_or_eq_true (j17_4 == (0 : Int)) with hx240 | hx240
    · replace h := ct hx240 h
      refine wl_val (v := .pointer (some ⟨b1, 2, none⟩)) (val_ia (j := 0) tt_ok rfl rfl rfl rfl (by simpa using hx240) rfl rfl) rfl ?_
      refine wl_val (v := .agg #[.int .i32 p0.Players.1.X, .int .i32 p0.Players.1.Y, .int .i32 p0.Players.1.VX, .int .i32 p0.Players.1.VY, .int .u8 p0.Players.1.Health, .int .u8 p0.Players.1.Cool, .int .u8 p0.Players.1.Face]) (val_load tt_ok rfl (List.Mem.head _) rfl) rfl ?_
      refine wl_alloc tt_ok rfl rfl (fun b5 => ?_)
      apply wl_store tt_ok; rfl; exact Upd.here; rfl; rfl; rfl; rfl; rfl; rfl
      refine wl_nil ?_
      refine wx_then ?_
      refine wc_k2 (Ls := (⟨b5, [.int .i32 p0.Players.1.X, .int .i32 p0.Players.1.Y, .int .i32 p0.Players.1.VX, .int .i32 p0.Players.1.VY, .int .u8 p0.Players.1.Health, .int .u8 p0.Players.1.Cool, .int .u8 p0.Players.1.Face], 24, (0, 0)⟩ :: (⟨b1, [.int .u64 p0.Frame, .int .u64 p0.Seed, .int .i32 p0.Players.1.X, .int .i32 p0.Players.1.Y, .int .i32 p0.Players.1.VX, .int .i32 p0.Players.1.VY, .int .u8 p0.Players.1.Health, .int .u8 p0.Players.1.Cool, .int .u8 p0.Players.1.Face, .int .i32 p0.Players.2.X, .int .i32 p0.Players.2.Y, .int .i32 p0.Players.2.VX, .int .i32 p0.Players.2.VY, .int .u8 p0.Players.2.Health, .int .u8 p0.Players.2.Cool, .int .u8 p0.Players.2.Face, .slice p0a0 p0n0 p0c0, .int .u16 p0.Score.1, .int .u16 p0.Score.2], 30, (0, 0)⟩ :: []))) [3, 7, 11, 15, 23] [] [0, 0, 2, 6, 15, 0, 32, 110, 255, 0, 512, 1774, 4095, 0, 8192, 28398, 65535, 0, 131072, 0, 524288, 0, 2097152, 8257536, 16646144, 33554431, 67108863] [0, 1, 2, 5, 6, 9, 10, 13, 14, 17, 18, 19, 20, 21, 22] (by kernel_rfl) (by kernel_rfl) (by kernel_rfl) ?_
      refine k_val rfl rfl rfl (pSub (pCons Sel.hc (pCons Sel.hc pNil))) (stepV_ok tt_ok rfl) rfl ?_
      refine k_val (v := .pointer (some ⟨b5, 0, none⟩)) rfl rfl rfl (pSub (pCons Sel.hc (pCons Sel.hc pNil))) (stepV_ok tt_ok rfl) rfl ?_
      refine k_val (v := .int .i32 p0.Players.1.X) rfl rfl rfl (pSub (pCons Sel.hc (pCons Sel.hc pNil))) (val_load tt_ok rfl (List.Mem.head _) rfl) rfl ?_
      refine k_val (v := .pointer (some ⟨b5, 1, none⟩)) rfl rfl rfl (pSub (pCons Sel.hc (pCons Sel.hc pNil))) (stepV_ok tt_ok rfl) rfl ?_
      refine k_val (v := .int .i32 p0.Players.1.Y) rfl rfl rfl (pSub (pCons Sel.hc (pCons Sel.hc pNil))) (val_load tt_ok rfl (List.Mem.head _) rfl) rfl ?_
      refine k_val (v := .pointer (some ⟨b5, 2, none⟩)) rfl rfl rfl (pSub (pCons Sel.hc (pCons Sel.hc pNil))) (stepV_ok tt_ok rfl) rfl ?_
      refine k_val (v := .int .i32 p0.Players.1.VX) rfl rfl rfl (pSub (pCons Sel.hc (pCons Sel.hc pNil))) (val_load tt_ok rfl (List.Mem.head _) rfl) rfl ?_
      refine k_val (v := .pointer (some ⟨b5, 3, none⟩)) rfl rfl rfl (pSub (pCons Sel.hc (pCons Sel.hc pNil))) (stepV_ok tt_ok rfl) rfl ?_
      refine k_val (v := .int .i32 p0.Players.1.VY) rfl rfl rfl (pSub (pCons Sel.hc (pCons Sel.hc pNil))) (val_load tt_ok rfl (List.Mem.head _) rfl) rfl ?_
      refine k_val (v := .pointer (some ⟨b5, 4, none⟩)) rfl rfl rfl (pSub (pCons Sel.hc (pCons Sel.hc pNil))) (stepV_ok tt_ok rfl) rfl ?_
      refine k_val (v := .int .u8 p0.Players.1.Health) rfl rfl rfl (pSub (pCons Sel.hc (pCons Sel.hc pNil))) (val_load tt_ok rfl (List.Mem.head _) rfl) rfl ?_
      refine k_val (v := .pointer (some ⟨b5, 5, none⟩)) rfl rfl rfl (pSub (pCons Sel.hc (pCons Sel.hc pNil))) (stepV_ok tt_ok rfl) rfl ?_
      refine k_val (v := .int .u8 p0.Players.1.Cool) rfl rfl rfl (pSub (pCons Sel.hc (pCons Sel.hc pNil))) (val_load tt_ok rfl (List.Mem.head _) rfl) rfl ?_
      refine k_val (v := .pointer (some ⟨b5, 6, none⟩)) rfl rfl rfl (pSub (pCons Sel.hc (pCons Sel.hc pNil))) (stepV_ok tt_ok rfl) rfl ?_
      refine k_val (v := .int .u8 p0.Players.1.Face) rfl rfl rfl (pSub (pCons Sel.hc (pCons Sel.hc pNil))) (val_load tt_ok rfl (List.Mem.head _) rfl) rfl ?_
      refine k_two (i := 3) (j := 23) (t1 := [4]) (t2 := [24, 3, 4, 7, 8, 11, 12, 15, 16, 25, 26]) (by kernel_rfl) (by kernel_rfl) (by kernel_rfl) (by kernel_rfl) ?_ ?_
      · replace h := bsome h; obtain ⟨v29, x29, h⟩ := h
        refine k_cqf rfl rfl Tryd.call32 rfl rfl rfl (q_pf (k_hindcastref08_signed x29) (fun _ _ => trivial)) rfl (pSub (pCons Sel.hc (pCons Sel.hc pNil))) ?_
        replace h := bsome h; obtain ⟨v30, x30, h⟩ := h
        refine k_val (v := .string ⟨v30.toArray⟩) rfl rfl rfl (pSub (pCons Sel.hc (pCons Sel.hc pNil))) (val_cat tt_ok rfl rfl x30) rfl ?_
        refine k_two (i := 7) (j := 23) (t1 := [8]) (t2 := [24, 7, 8, 11, 12, 15, 16, 25, 26]) (by kernel_rfl) (by kernel_rfl) (by kernel_rfl) (by kernel_rfl) ?_ ?_
        · replace h := bsome h; obtain ⟨v33, x33, h⟩ := h
          refine k_cqf rfl rfl Tryd.call32 rfl rfl rfl (q_pf (k_hindcastref08_signed x33) (fun _ _ => trivial)) rfl (pSub (pCons Sel.hc (pCons Sel.hc pNil))) ?_
          replace h := bsome h; obtain ⟨v34, x34, h⟩ := h
          refine k_val (v := .string ⟨v34.toArray⟩) rfl rfl rfl (pSub (pCons Sel.hc (pCons Sel.hc pNil))) (val_cat tt_ok rfl rfl x34) rfl ?_
          refine k_two (i := 11) (j := 23) (t1 := [12]) (t2 := [24, 11, 12, 15, 16, 25, 26]) (by kernel_rfl) (by kernel_rfl) (by kernel_rfl) (by kernel_rfl) ?_ ?_
          · replace h := bsome h; obtain ⟨v37, x37, h⟩ := h
            refine k_cqf rfl rfl Tryd.call32 rfl rfl rfl (q_pf (k_hindcastref08_signed x37) (fun _ _ => trivial)) rfl (pSub (pCons Sel.hc (pCons Sel.hc pNil))) ?_
            replace h := bsome h; obtain ⟨v38, x38, h⟩ := h
            refine k_val (v := .string ⟨v38.toArray⟩) rfl rfl rfl (pSub (pCons Sel.hc (pCons Sel.hc pNil))) (val_cat tt_ok rfl rfl x38) rfl ?_
            refine k_two (i := 15) (j := 23) (t1 := [16, 23, 24, 25, 26]) (t2 := [24, 15, 16, 25, 26]) (by kernel_rfl) (by kernel_rfl) (by kernel_rfl) (by kernel_rfl) ?_ ?_
            · replace h := bsome h; obtain ⟨v41, x41, h⟩ := h
              refine k_cqf rfl rfl Tryd.call32 rfl rfl rfl (q_pf (k_hindcastref08_signed x41) (fun _ _ => trivial)) rfl (pSub (pCons Sel.hc (pCons Sel.hc pNil))) ?_
              replace h := bsome h; obtain ⟨v42, x42, h⟩ := h
              refine k_val (v := .string ⟨v42.toArray⟩) rfl rfl rfl (pSub (pCons Sel.hc (pCons Sel.hc pNil))) (val_cat tt_ok rfl rfl x42) rfl ?_
              refine k_chg rfl rfl rfl (chg_bsv (enc := (e1 .u8)) (xs := ([p0.Players.1.Health, p0.Players.1.Cool, p0.Players.1.Face] : List Int)) tt_ok rfl rfl rfl rfl rfl rfl rfl rfl (e1_len _)) rfl (.inr (by rintro _ _ ⟨_, _, _, _, rfl, _, _, rfl⟩; exact ⟨_, (pCons (Sel.sa Sel.hc) (pCons (Sel.sa Sel.hc) pNil))⟩)) ?_
              rintro _ _ ⟨a49, n49_, c49, B49, rfl, N49, V49, rfl⟩
              refine k_ls (Ls' := (B49 ++ (⟨b5, [.int .i32 p0.Players.1.X, .int .i32 p0.Players.1.Y, .int .i32 p0.Players.1.VX, .int .i32 p0.Players.1.VY, .int .u8 p0.Players.1.Health, .int .u8 p0.Players.1.Cool, .int .u8 p0.Players.1.Face], 24, (0, 0)⟩ :: (⟨b1, [.int .u64 p0.Frame, .int .u64 p0.Seed, .int .i32 p0.Players.1.X, .int .i32 p0.Players.1.Y, .int .i32 p0.Players.1.VX, .int .i32 p0.Players.1.VY, .int .u8 p0.Players.1.Health, .int .u8 p0.Players.1.Cool, .int .u8 p0.Players.1.Face, .int .i32 p0.Players.2.X, .int .i32 p0.Players.2.Y, .int .i32 p0.Players.2.VX, .int .i32 p0.Players.2.VY, .int .u8 p0.Players.2.Health, .int .u8 p0.Players.2.Cool, .int .u8 p0.Players.2.Face, .slice p0a0 p0n0 p0c0, .int .u16 p0.Score.1, .int .u16 p0.Score.2], 30, (0, 0)⟩ :: [])))) (pSub (pCons (Sel.sa Sel.hc) (pCons (Sel.sa Sel.hc) pNil))) ?_
              refine k_val (v := .string ⟨(toB ([p0.Players.1.Health, p0.Players.1.Cool, p0.Players.1.Face] : List Int)).toArray⟩) rfl rfl rfl (pSub (pApp Sel.ha (pCons Sel.hc (pCons Sel.hc pNil)))) (val_b2s (xs := ([p0.Players.1.Health, p0.Players.1.Cool, p0.Players.1.Face] : List Int)) tt_ok rfl rfl rfl rfl N49 (Rds.of_vec V49) ⟨_, Sel.ha⟩) rfl ?_
              replace h := bsome h; obtain ⟨v51, x51, h⟩ := h
              refine k_val (v := .string ⟨v51.toArray⟩) rfl rfl rfl (pSub (pApp Sel.ha (pCons Sel.hc (pCons Sel.hc pNil)))) (val_cat tt_ok rfl rfl x51) rfl ?_
              refine k_val rfl rfl rfl (pSub (pApp Sel.ha (pCons Sel.hc (pCons Sel.hc pNil)))) (stepV_ok tt_ok rfl) rfl ?_
              refine k_end (by kernel_rfl) ?_
              refine wx_block ?_
              refine wx_then ?_
              refine wc_region ?_
              refine wl_pure tt_ok rfl rfl ?_
              refine wl_pure (v := .int .i64 (IntKind.wrap .i64 (j17_4 + (1 : Int)))) tt_ok rfl rfl ?_
              refine wl_pure tt_ok rfl rfl ?_
              refine wl_nil ?_
              exact wx_round m17 (Nat.lt_succ_self m17) ⟨v51, (IntKind.wrap .i64 (j17_4 + (1 : Int))), h, rfl, rfl⟩ (agree_cons rfl (agree_cons rfl (agree_cons rfl (agree_cons rfl agree_nil)))) (pSub (pCons (Sel.sa (Sel.sc Sel.hc)) pNil))
            refine k_chgf rfl rfl (chg_bsv (enc := (e1 .u8)) (xs := ([p0.Players.1.Health, p0.Players.1.Cool, p0.Players.1.Face] : List Int)) tt_ok rfl rfl rfl rfl rfl rfl rfl rfl (e1_len _)) rfl (.inr (by rintro _ _ ⟨_, _, _, _, rfl, _, _, rfl⟩; exact ⟨_, (pCons (Sel.sa Sel.hc) (pCons (Sel.sa Sel.hc) pNil))⟩)) ?_
            rintro _ _ ⟨a49, n49_, c49, B49, rfl, N49, V49, rfl⟩
            refine k_ls (Ls' := (B49 ++ (⟨b5, [.int .i32 p0.Players.1.X, .int .i32 p0.Players.1.Y, .int .i32 p0.Players.1.VX, .int .i32 p0.Players.1.VY, .int .u8 p0.Players.1.Health, .int .u8 p0.Players.1.Cool, .int .u8 p0.Players.1.Face], 24, (0, 0)⟩ :: (⟨b1, [.int .u64 p0.Frame, .int .u64 p0.Seed, .int .i32 p0.Players.1.X, .int .i32 p0.Players.1.Y, .int .i32 p0.Players.1.VX, .int .i32 p0.Players.1.VY, .int .u8 p0.Players.1.Health, .int .u8 p0.Players.1.Cool, .int .u8 p0.Players.1.Face, .int .i32 p0.Players.2.X, .int .i32 p0.Players.2.Y, .int .i32 p0.Players.2.VX, .int .i32 p0.Players.2.VY, .int .u8 p0.Players.2.Health, .int .u8 p0.Players.2.Cool, .int .u8 p0.Players.2.Face, .slice p0a0 p0n0 p0c0, .int .u16 p0.Score.1, .int .u16 p0.Score.2], 30, (0, 0)⟩ :: [])))) (pSub (pCons (Sel.sa Sel.hc) (pCons (Sel.sa Sel.hc) pNil))) ?_
            refine k_val (v := .string ⟨(toB ([p0.Players.1.Health, p0.Players.1.Cool, p0.Players.1.Face] : List Int)).toArray⟩) rfl rfl rfl (pSub (pApp Sel.ha (pCons Sel.hc (pCons Sel.hc pNil)))) (val_b2s (xs := ([p0.Players.1.Health, p0.Players.1.Cool, p0.Players.1.Face] : List Int)) tt_ok rfl rfl rfl rfl N49 (Rds.of_vec V49) ⟨_, Sel.ha⟩) rfl ?_
            replace h := bsome h; obtain ⟨v41, x41, h⟩ := h
            refine k_cq rfl rfl rfl Tryd.call32 rfl rfl rfl (q_pf (k_hindcastref08_signed x41) (fun _ _ => trivial)) rfl (pSub (pApp Sel.ha (pCons Sel.hc (pCons Sel.hc pNil)))) ?_
            replace h := bsome h; obtain ⟨v42, x42, h⟩ := h
            refine k_val (v := .string ⟨v42.toArray⟩) rfl rfl rfl (pSub (pApp Sel.ha (pCons Sel.hc (pCons Sel.hc pNil)))) (val_cat tt_ok rfl rfl x42) rfl ?_
            replace h := bsome h; obtain ⟨v51, x51, h⟩ := h
            refine k_val (v := .string ⟨v51.toArray⟩) rfl rfl rfl (pSub (pApp Sel.ha (pCons Sel.hc (pCons Sel.hc pNil)))) (val_cat tt_ok rfl rfl x51) rfl ?_
            refine k_val rfl rfl rfl (pSub (pApp Sel.ha (pCons Sel.hc (pCons Sel.hc pNil)))) (stepV_ok tt_ok rfl) rfl ?_
            refine k_end (by kernel_rfl) ?_
            refine wx_block ?_
            refine wx_then ?_
            refine wc_region ?_
            refine wl_pure tt_ok rfl rfl ?_
            refine wl_pure (v := .int .i64 (IntKind.wrap .i64 (j17_4 + (1 : Int)))) tt_ok rfl rfl ?_
            refine wl_pure tt_ok rfl rfl ?_
            refine wl_nil ?_
            exact wx_round m17 (Nat.lt_succ_self m17) ⟨v51, (IntKind.wrap .i64 (j17_4 + (1 : Int))), h, rfl, rfl⟩ (agree_cons rfl (agree_cons rfl (agree_cons rfl (agree_cons rfl agree_nil)))) (pSub (pCons (Sel.sa (Sel.sc Sel.hc)) pNil))
          refine k_chgf rfl rfl (chg_bsv (enc := (e1 .u8)) (xs := ([p0.Players.1.Health, p0.Players.1.Cool, p0.Players.1.Face] : List Int)) tt_ok rfl rfl rfl rfl rfl rfl rfl rfl (e1_len _)) rfl (.inr (by rintro _ _ ⟨_, _, _, _, rfl, _, _, rfl⟩; exact ⟨_, (pCons (Sel.sa Sel.hc) (pCons (Sel.sa Sel.hc) pNil))⟩)) ?_
          rintro _ _ ⟨a49, n49_, c49, B49, rfl, N49, V49, rfl⟩
          refine k_ls (Ls' := (B49 ++ (⟨b5, [.int .i32 p0.Players.1.X, .int .i32 p0.Players.1.Y, .int .i32 p0.Players.1.VX, .int .i32 p0.Players.1.VY, .int .u8 p0.Players.1.Health, .int .u8 p0.Players.1.Cool, .int .u8 p0.Players.1.Face], 24, (0, 0)⟩ :: (⟨b1, [.int .u64 p0.Frame, .int .u64 p0.Seed, .int .i32 p0.Players.1.X, .int .i32 p0.Players.1.Y, .int .i32 p0.Players.1.VX, .int .i32 p0.Players.1.VY, .int .u8 p0.Players.1.Health, .int .u8 p0.Players.1.Cool, .int .u8 p0.Players.1.Face, .int .i32 p0.Players.2.X, .int .i32 p0.Players.2.Y, .int .i32 p0.Players.2.VX, .int .i32 p0.Players.2.VY, .int .u8 p0.Players.2.Health, .int .u8 p0.Players.2.Cool, .int .u8 p0.Players.2.Face, .slice p0a0 p0n0 p0c0, .int .u16 p0.Score.1, .int .u16 p0.Score.2], 30, (0, 0)⟩ :: [])))) (pSub (pCons (Sel.sa Sel.hc) (pCons (Sel.sa Sel.hc) pNil))) ?_
          refine k_val (v := .string ⟨(toB ([p0.Players.1.Health, p0.Players.1.Cool, p0.Players.1.Face] : List Int)).toArray⟩) rfl rfl rfl (pSub (pApp Sel.ha (pCons Sel.hc (pCons Sel.hc pNil)))) (val_b2s (xs := ([p0.Players.1.Health, p0.Players.1.Cool, p0.Players.1.Face] : List Int)) tt_ok rfl rfl rfl rfl N49 (Rds.of_vec V49) ⟨_, Sel.ha⟩) rfl ?_
          replace h := bsome h; obtain ⟨v37, x37, h⟩ := h
          refine k_cq rfl rfl rfl Tryd.call32 rfl rfl rfl (q_pf (k_hindcastref08_signed x37) (fun _ _ => trivial)) rfl (pSub (pApp Sel.ha (pCons Sel.hc (pCons Sel.hc pNil)))) ?_
          replace h := bsome h; obtain ⟨v38, x38, h⟩ := h
          refine k_val (v := .string ⟨v38.toArray⟩) rfl rfl rfl (pSub (pApp Sel.ha (pCons Sel.hc (pCons Sel.hc pNil)))) (val_cat tt_ok rfl rfl x38) rfl ?_
          replace h := bsome h; obtain ⟨v41, x41, h⟩ := h
          refine k_cq rfl rfl rfl Tryd.call32 rfl rfl rfl (q_pf (k_hindcastref08_signed x41) (fun _ _ => trivial)) rfl (pSub (pApp Sel.ha (pCons Sel.hc (pCons Sel.hc pNil)))) ?_
          replace h := bsome h; obtain ⟨v42, x42, h⟩ := h
          refine k_val (v := .string ⟨v42.toArray⟩) rfl rfl rfl (pSub (pApp Sel.ha (pCons Sel.hc (pCons Sel.hc pNil)))) (val_cat tt_ok rfl rfl x42) rfl ?_
          replace h := bsome h; obtain ⟨v51, x51, h⟩ := h
          refine k_val (v := .string ⟨v51.toArray⟩) rfl rfl rfl (pSub (pApp Sel.ha (pCons Sel.hc (pCons Sel.hc pNil)))) (val_cat tt_ok rfl rfl x51) rfl ?_
          refine k_val rfl rfl rfl (pSub (pApp Sel.ha (pCons Sel.hc (pCons Sel.hc pNil)))) (stepV_ok tt_ok rfl) rfl ?_
          refine k_end (by kernel_rfl) ?_
          refine wx_block ?_
          refine wx_then ?_
          refine wc_region ?_
          refine wl_pure tt_ok rfl rfl ?_
          refine wl_pure (v := .int .i64 (IntKind.wrap .i64 (j17_4 + (1 : Int)))) tt_ok rfl rfl ?_
          refine wl_pure tt_ok rfl rfl ?_
          refine wl_nil ?_
          exact wx_round m17 (Nat.lt_succ_self m17) ⟨v51, (IntKind.wrap .i64 (j17_4 + (1 : Int))), h, rfl, rfl⟩ (agree_cons rfl (agree_cons rfl (agree_cons rfl (agree_cons rfl agree_nil)))) (pSub (pCons (Sel.sa (Sel.sc Sel.hc)) pNil))
        refine k_chgf rfl rfl (chg_bsv (enc := (e1 .u8)) (xs := ([p0.Players.1.Health, p0.Players.1.Cool, p0.Players.1.Face] : List Int)) tt_ok rfl rfl rfl rfl rfl rfl rfl rfl (e1_len _)) rfl (.inr (by rintro _ _ ⟨_, _, _, _, rfl, _, _, rfl⟩; exact ⟨_, (pCons (Sel.sa Sel.hc) (pCons (Sel.sa Sel.hc) pNil))⟩)) ?_
        rintro _ _ ⟨a49, n49_, c49, B49, rfl, N49, V49, rfl⟩
        refine k_ls (Ls' := (B49 ++ (⟨b5, [.int .i32 p0.Players.1.X, .int .i32 p0.Players.1.Y, .int .i32 p0.Players.1.VX, .int .i32 p0.Players.1.VY, .int .u8 p0.Players.1.Health, .int .u8 p0.Players.1.Cool, .int .u8 p0.Players.1.Face], 24, (0, 0)⟩ :: (⟨b1, [.int .u64 p0.Frame, .int .u64 p0.Seed, .int .i32 p0.Players.1.X, .int .i32 p0.Players.1.Y, .int .i32 p0.Players.1.VX, .int .i32 p0.Players.1.VY, .int .u8 p0.Players.1.Health, .int .u8 p0.Players.1.Cool, .int .u8 p0.Players.1.Face, .int .i32 p0.Players.2.X, .int .i32 p0.Players.2.Y, .int .i32 p0.Players.2.VX, .int .i32 p0.Players.2.VY, .int .u8 p0.Players.2.Health, .int .u8 p0.Players.2.Cool, .int .u8 p0.Players.2.Face, .slice p0a0 p0n0 p0c0, .int .u16 p0.Score.1, .int .u16 p0.Score.2], 30, (0, 0)⟩ :: [])))) (pSub (pCons (Sel.sa Sel.hc) (pCons (Sel.sa Sel.hc) pNil))) ?_
        refine k_val (v := .string ⟨(toB ([p0.Players.1.Health, p0.Players.1.Cool, p0.Players.1.Face] : List Int)).toArray⟩) rfl rfl rfl (pSub (pApp Sel.ha (pCons Sel.hc (pCons Sel.hc pNil)))) (val_b2s (xs := ([p0.Players.1.Health, p0.Players.1.Cool, p0.Players.1.Face] : List Int)) tt_ok rfl rfl rfl rfl N49 (Rds.of_vec V49) ⟨_, Sel.ha⟩) rfl ?_
        replace h := bsome h; obtain ⟨v33, x33, h⟩ := h
        refine k_cq rfl rfl rfl Tryd.call32 rfl rfl rfl (q_pf (k_hindcastref08_signed x33) (fun _ _ => trivial)) rfl (pSub (pApp Sel.ha (pCons Sel.hc (pCons Sel.hc pNil)))) ?_
        replace h := bsome h; obtain ⟨v34, x34, h⟩ := h
        refine k_val (v := .string ⟨v34.toArray⟩) rfl rfl rfl (pSub (pApp Sel.ha (pCons Sel.hc (pCons Sel.hc pNil)))) (val_cat tt_ok rfl rfl x34) rfl ?_
        replace h := bsome h; obtain ⟨v37, x37, h⟩ := h
        refine k_cq rfl rfl rfl Tryd.call32 rfl rfl rfl (q_pf (k_hindcastref08_signed x37) (fun _ _ => trivial)) rfl (pSub (pApp Sel.ha (pCons Sel.hc (pCons Sel.hc pNil)))) ?_
        replace h := bsome h; obtain ⟨v38, x38, h⟩ := h
        refine k_val (v := .string ⟨v38.toArray⟩) rfl rfl rfl (pSub (pApp Sel.ha (pCons Sel.hc (pCons Sel.hc pNil)))) (val_cat tt_ok rfl rfl x38) rfl ?_
        replace h := bsome h; obtain ⟨v41, x41, h⟩ := h
        refine k_cq rfl rfl rfl Tryd.call32 rfl rfl rfl (q_pf (k_hindcastref08_signed x41) (fun _ _ => trivial)) rfl (pSub (pApp Sel.ha (pCons Sel.hc (pCons Sel.hc pNil)))) ?_
        replace h := bsome h; obtain ⟨v42, x42, h⟩ := h
        refine k_val (v := .string ⟨v42.toArray⟩) rfl rfl rfl (pSub (pApp Sel.ha (pCons Sel.hc (pCons Sel.hc pNil)))) (val_cat tt_ok rfl rfl x42) rfl ?_
        replace h := bsome h; obtain ⟨v51, x51, h⟩ := h
        refine k_val (v := .string ⟨v51.toArray⟩) rfl rfl rfl (pSub (pApp Sel.ha (pCons Sel.hc (pCons Sel.hc pNil)))) (val_cat tt_ok rfl rfl x51) rfl ?_
        refine k_val rfl rfl rfl (pSub (pApp Sel.ha (pCons Sel.hc (pCons Sel.hc pNil)))) (stepV_ok tt_ok rfl) rfl ?_
        refine k_end (by kernel_rfl) ?_
        refine wx_block ?_
        refine wx_then ?_
        refine wc_region ?_
        refine wl_pure tt_ok rfl rfl ?_
        refine wl_pure (v := .int .i64 (IntKind.wrap .i64 (j17_4 + (1 : Int)))) tt_ok rfl rfl ?_
        refine wl_pure tt_ok rfl rfl ?_
        refine wl_nil ?_
        exact wx_round m17 (Nat.lt_succ_self m17) ⟨v51, (IntKind.wrap .i64 (j17_4 + (1 : Int))), h, rfl, rfl⟩ (agree_cons rfl (agree_cons rfl (agree_cons rfl (agree_cons rfl agree_nil)))) (pSub (pCons (Sel.sa (Sel.sc Sel.hc)) pNil))
      refine k_chgf rfl rfl (chg_bsv (enc := (e1 .u8)) (xs := ([p0.Players.1.Health, p0.Players.1.Cool, p0.Players.1.Face] : List Int)) tt_ok rfl rfl rfl rfl rfl rfl rfl rfl (e1_len _)) rfl (.inr (by rintro _ _ ⟨_, _, _, _, rfl, _, _, rfl⟩; exact ⟨_, (pCons (Sel.sa Sel.hc) (pCons (Sel.sa Sel.hc) pNil))⟩)) ?_
      rintro _ _ ⟨a49, n49_, c49, B49, rfl, N49, V49, rfl⟩
      refine k_ls (Ls' := (B49 ++ (⟨b5, [.int .i32 p0.Players.1.X, .int .i32 p0.Players.1.Y, .int .i32 p0.Players.1.VX, .int .i32 p0.Players.1.VY, .int .u8 p0.Players.1.Health, .int .u8 p0.Players.1.Cool, .int .u8 p0.Players.1.Face], 24, (0, 0)⟩ :: (⟨b1, [.int .u64 p0.Frame, .int .u64 p0.Seed, .int .i32 p0.Players.1.X, .int .i32 p0.Players.1.Y, .int .i32 p0.Players.1.VX, .int .i32 p0.Players.1.VY, .int .u8 p0.Players.1.Health, .int .u8 p0.Players.1.Cool, .int .u8 p0.Players.1.Face, .int .i32 p0.Players.2.X, .int .i32 p0.Players.2.Y, .int .i32 p0.Players.2.VX, .int .i32 p0.Players.2.VY, .int .u8 p0.Players.2.Health, .int .u8 p0.Players.2.Cool, .int .u8 p0.Players.2.Face, .slice p0a0 p0n0 p0c0, .int .u16 p0.Score.1, .int .u16 p0.Score.2], 30, (0, 0)⟩ :: [])))) (pSub (pCons (Sel.sa Sel.hc) (pCons (Sel.sa Sel.hc) pNil))) ?_
      refine k_val (v := .string ⟨(toB ([p0.Players.1.Health, p0.Players.1.Cool, p0.Players.1.Face] : List Int)).toArray⟩) rfl rfl rfl (pSub (pApp Sel.ha (pCons Sel.hc (pCons Sel.hc pNil)))) (val_b2s (xs := ([p0.Players.1.Health, p0.Players.1.Cool, p0.Players.1.Face] : List Int)) tt_ok rfl rfl rfl rfl N49 (Rds.of_vec V49) ⟨_, Sel.ha⟩) rfl ?_
      replace h := bsome h; obtain ⟨v29, x29, h⟩ := h
      refine k_cq rfl rfl rfl Tryd.call32 rfl rfl rfl (q_pf (k_hindcastref08_signed x29) (fun _ _ => trivial)) rfl (pSub (pApp Sel.ha (pCons Sel.hc (pCons Sel.hc pNil)))) ?_
      replace h := bsome h; obtain ⟨v30, x30, h⟩ := h
      refine k_val (v := .string ⟨v30.toArray⟩) rfl rfl rfl (pSub (pApp Sel.ha (pCons Sel.hc (pCons Sel.hc pNil)))) (val_cat tt_ok rfl rfl x30) rfl ?_
      replace h := bsome h; obtain ⟨v33, x33, h⟩ := h
      refine k_cq rfl rfl rfl Tryd.call32 rfl rfl rfl (q_pf (k_hindcastref08_signed x33) (fun _ _ => trivial)) rfl (pSub (pApp Sel.ha (pCons Sel.hc (pCons Sel.hc pNil)))) ?_
      replace h := bsome h; obtain ⟨v34, x34, h⟩ := h
      refine k_val (v := .string ⟨v34.toArray⟩) rfl rfl rfl (pSub (pApp Sel.ha (pCons Sel.hc (pCons Sel.hc pNil)))) (val_cat tt_ok rfl rfl x34) rfl ?_
      replace h := bsome h; obtain ⟨v37, x37, h⟩ := h
      refine k_cq rfl rfl rfl Tryd.call32 rfl rfl rfl (q_pf (k_hindcastref08_signed x37) (fun _ _ => trivial)) rfl (pSub (pApp Sel.ha (pCons Sel.hc (pCons Sel.hc pNil)))) ?_
      replace h := bsome h; obtain ⟨v38, x38, h⟩ := h
      refine k_val (v := .string ⟨v38.toArray⟩) rfl rfl rfl (pSub (pApp Sel.ha (pCons Sel.hc (pCons Sel.hc pNil)))) (val_cat tt_ok rfl rfl x38) rfl ?_
      replace h := bsome h; obtain ⟨v41, x41, h⟩ := h
      refine k_cq rfl rfl rfl Tryd.call32 rfl rfl rfl (q_pf (k_hindcastref08_signed x41) (fun _ _ => trivial)) rfl (pSub (pApp Sel.ha (pCons Sel.hc (pCons Sel.hc pNil)))) ?_
      replace h := bsome h; obtain ⟨v42, x42, h⟩ := h
      refine k_val (v := .string ⟨v42.toArray⟩) rfl rfl rfl (pSub (pApp Sel.ha (pCons Sel.hc (pCons Sel.hc pNil)))) (val_cat tt_ok rfl rfl x42) rfl ?_
      replace h := bsome h; obtain ⟨v51, x51, h⟩ := h
      refine k_val (v := .string ⟨v51.toArray⟩) rfl rfl rfl (pSub (pApp Sel.ha (pCons Sel.hc (pCons Sel.hc pNil)))) (val_cat tt_ok rfl rfl x51) rfl ?_
      refine k_val rfl rfl rfl (pSub (pApp Sel.ha (pCons Sel.hc (pCons Sel.hc pNil)))) (stepV_ok tt_ok rfl) rfl ?_
      refine k_end (by kernel_rfl) ?_
      refine wx_block ?_
      refine wx_then ?_
      refine wc_region ?_
      refine wl_pure tt_ok rfl rfl ?_
      refine wl_pure (v := .int .i64 (IntKind.wrap .i64 (j17_4 + (1 : Int)))) tt_ok rfl rfl ?_
      refine wl_pure tt_ok rfl rfl ?_
      refine wl_nil ?_
      exact wx_round m17 (Nat.lt_succ_self m17) ⟨v51, (IntKind.wrap .i64 (j17_4 + (1 : Int))), h, rfl, rfl⟩ (agree_cons rfl (agree_cons rfl (agree_cons rfl (agree_cons rfl agree_nil)))) (pSub (pCons (Sel.sa (Sel.sc Sel.hc)) pNil))
    replace h := cf hx240 h
    rcases Bool.eq_false_or_eq_true (j17_4 == (1 : Int)) with hx241 | hx241
    · replace h := ct hx241 h
      refine wl_val (v := .pointer (some ⟨b1, 9, none⟩)) (val_ia (j := 1) tt_ok rfl rfl rfl rfl (by simpa using hx241) rfl rfl) rfl ?_
      refine wl_val (v := .agg #[.int .i32 p0.Players.2.X, .int .i32 p0.Players.2.Y, .int .i32 p0.Players.2.VX, .int .i32 p0.Players.2.VY, .int .u8 p0.Players.2.Health, .int .u8 p0.Players.2.Cool, .int .u8 p0.Players.2.Face]) (val_load tt_ok rfl (List.Mem.head _) rfl) rfl ?_
      refine wl_alloc tt_ok rfl rfl (fun b5 => ?_)
      apply wl_store tt_ok; rfl; exact Upd.here; rfl; rfl; rfl; rfl; rfl; rfl
      refine wl_nil ?_
      refine wx_then ?_
      refine wc_k2 (Ls := (⟨b5, [.int .i32 p0.Players.2.X, .int .i32 p0.Players.2.Y, .int .i32 p0.Players.2.VX, .int .i32 p0.Players.2.VY, .int .u8 p0.Players.2.Health, .int .u8 p0.Players.2.Cool, .int .u8 p0.Players.2.Face], 24, (0, 0)⟩ :: (⟨b1, [.int .u64 p0.Frame, .int .u64 p0.Seed, .int .i32 p0.Players.1.X, .int .i32 p0.Players.1.Y, .int .i32 p0.Players.1.VX, .int .i32 p0.Players.1.VY, .int .u8 p0.Players.1.Health, .int .u8 p0.Players.1.Cool, .int .u8 p0.Players.1.Face, .int .i32 p0.Players.2.X, .int .i32 p0.Players.2.Y, .int .i32 p0.Players.2.VX, .int .i32 p0.Players.2.VY, .int .u8 p0.Players.2.Health, .int .u8 p0.Players.2.Cool, .int .u8 p0.Players.2.Face, .slice p0a0 p0n0 p0c0, .int .u16 p0.Score.1, .int .u16 p0.Score.2], 30, (0, 0)⟩ :: []))) [3, 7, 11, 15, 23] [] [0, 0, 2, 6, 15, 0, 32, 110, 255, 0, 512, 1774, 4095, 0, 8192, 28398, 65535, 0, 131072, 0, 524288, 0, 2097152, 8257536, 16646144, 33554431, 67108863] [0, 1, 2, 5, 6, 9, 10, 13, 14, 17, 18, 19, 20, 21, 22] (by kernel_rfl) (by kernel_rfl) (by kernel_rfl) ?_
      refine k_val rfl rfl rfl (pSub (pCons Sel.hc (pCons Sel.hc pNil))) (stepV_ok tt_ok rfl) rfl ?_
      refine k_val (v := .pointer (some ⟨b5, 0, none⟩)) rfl rfl rfl (pSub (pCons Sel.hc (pCons Sel.hc pNil))) (stepV_ok tt_ok rfl) rfl ?_
      refine k_val (v := .int .i32 p0.Players.2.X) rfl rfl rfl (pSub (pCons Sel.hc (pCons Sel.hc pNil))) (val_load tt_ok rfl (List.Mem.head _) rfl) rfl ?_
      refine k_val (v := .pointer (some ⟨b5, 1, none⟩)) rfl rfl rfl (pSub (pCons Sel.hc (pCons Sel.hc pNil))) (stepV_ok tt_ok rfl) rfl ?_
      refine k_val (v := .int .i32 p0.Players.2.Y) rfl rfl rfl (pSub (pCons Sel.hc (pCons Sel.hc pNil))) (val_load tt_ok rfl (List.Mem.head _) rfl) rfl ?_
      refine k_val (v := .pointer (some ⟨b5, 2, none⟩)) rfl rfl rfl (pSub (pCons Sel.hc (pCons Sel.hc pNil))) (stepV_ok tt_ok rfl) rfl ?_
      refine k_val (v := .int .i32 p0.Players.2.VX) rfl rfl rfl (pSub (pCons Sel.hc (pCons Sel.hc pNil))) (val_load tt_ok rfl (List.Mem.head _) rfl) rfl ?_
      refine k_val (v := .pointer (some ⟨b5, 3, none⟩)) rfl rfl rfl (pSub (pCons Sel.hc (pCons Sel.hc pNil))) (stepV_ok tt_ok rfl) rfl ?_
      refine k_val (v := .int .i32 p0.Players.2.VY) rfl rfl rfl (pSub (pCons Sel.hc (pCons Sel.hc pNil))) (val_load tt_ok rfl (List.Mem.head _) rfl) rfl ?_
      refine k_val (v := .pointer (some ⟨b5, 4, none⟩)) rfl rfl rfl (pSub (pCons Sel.hc (pCons Sel.hc pNil))) (stepV_ok tt_ok rfl) rfl ?_
      refine k_val (v := .int .u8 p0.Players.2.Health) rfl rfl rfl (pSub (pCons Sel.hc (pCons Sel.hc pNil))) (val_load tt_ok rfl (List.Mem.head _) rfl) rfl ?_
      refine k_val (v := .pointer (some ⟨b5, 5, none⟩)) rfl rfl rfl (pSub (pCons Sel.hc (pCons Sel.hc pNil))) (stepV_ok tt_ok rfl) rfl ?_
      refine k_val (v := .int .u8 p0.Players.2.Cool) rfl rfl rfl (pSub (pCons Sel.hc (pCons Sel.hc pNil))) (val_load tt_ok rfl (List.Mem.head _) rfl) rfl ?_
      refine k_val (v := .pointer (some ⟨b5, 6, none⟩)) rfl rfl rfl (pSub (pCons Sel.hc (pCons Sel.hc pNil))) (stepV_ok tt_ok rfl) rfl ?_
      refine k_val (v := .int .u8 p0.Players.2.Face) rfl rfl rfl (pSub (pCons Sel.hc (pCons Sel.hc pNil))) (val_load tt_ok rfl (List.Mem.head _) rfl) rfl ?_
      refine k_two (i := 3) (j := 23) (t1 := [4]) (t2 := [24, 3, 4, 7, 8, 11, 12, 15, 16, 25, 26]) (by kernel_rfl) (by kernel_rfl) (by kernel_rfl) (by kernel_rfl) ?_ ?_
      · replace h := bsome h; obtain ⟨v29, x29, h⟩ := h
        refine k_cqf rfl rfl Tryd.call32 rfl rfl rfl (q_pf (k_hindcastref08_signed x29) (fun _ _ => trivial)) rfl (pSub (pCons Sel.hc (pCons Sel.hc pNil))) ?_
        replace h := bsome h; obtain ⟨v30, x30, h⟩ := h
        refine k_val (v := .string ⟨v30.toArray⟩) rfl rfl rfl (pSub (pCons Sel.hc (pCons Sel.hc pNil))) (val_cat tt_ok rfl rfl x30) rfl ?_
        refine k_two (i := 7) (j := 23) (t1 := [8]) (t2 := [24, 7, 8, 11, 12, 15, 16, 25, 26]) (by kernel_rfl) (by kernel_rfl) (by kernel_rfl) (by kernel_rfl) ?_ ?_
        · replace h := bsome h; obtain ⟨v33, x33, h⟩ := h
          refine k_cqf rfl rfl Tryd.call32 rfl rfl rfl (q_pf (k_hindcastref08_signed x33) (fun _ _ => trivial)) rfl (pSub (pCons Sel.hc (pCons Sel.hc pNil))) ?_
          replace h := bsome h; obtain ⟨v34, x34, h⟩ := h
          refine k_val (v := .string ⟨v34.toArray⟩) rfl rfl rfl (pSub (pCons Sel.hc (pCons Sel.hc pNil))) (val_cat tt_ok rfl rfl x34) rfl ?_
          refine k_two (i := 11) (j := 23) (t1 := [12]) (t2 := [24, 11, 12, 15, 16, 25, 26]) (by kernel_rfl) (by kernel_rfl) (by kernel_rfl) (by kernel_rfl) ?_ ?_
          · replace h := bsome h; obtain ⟨v37, x37, h⟩ := h
            refine k_cqf rfl rfl Tryd.call32 rfl rfl rfl (q_pf (k_hindcastref08_signed x37) (fun _ _ => trivial)) rfl (pSub (pCons Sel.hc (pCons Sel.hc pNil))) ?_
            replace h := bsome h; obtain ⟨v38, x38, h⟩ := h
            refine k_val (v := .string ⟨v38.toArray⟩) rfl rfl rfl (pSub (pCons Sel.hc (pCons Sel.hc pNil))) (val_cat tt_ok rfl rfl x38) rfl ?_
            refine k_two (i := 15) (j := 23) (t1 := [16, 23, 24, 25, 26]) (t2 := [24, 15, 16, 25, 26]) (by kernel_rfl) (by kernel_rfl) (by kernel_rfl) (by kernel_rfl) ?_ ?_
            · replace h := bsome h; obtain ⟨v41, x41, h⟩ := h
              refine k_cqf rfl rfl Tryd.call32 rfl rfl rfl (q_pf (k_hindcastref08_signed x41) (fun _ _ => trivial)) rfl (pSub (pCons Sel.hc (pCons Sel.hc pNil))) ?_
              replace h := bsome h; obtain ⟨v42, x42, h⟩ := h
              refine k_val (v := .string ⟨v42.toArray⟩) rfl rfl rfl (pSub (pCons Sel.hc (pCons Sel.hc pNil))) (val_cat tt_ok rfl rfl x42) rfl ?_
              refine k_chg rfl rfl rfl (chg_bsv (enc := (e1 .u8)) (xs := ([p0.Players.2.Health, p0.Players.2.Cool, p0.Players.2.Face] : List Int)) tt_ok rfl rfl rfl rfl rfl rfl rfl rfl (e1_len _)) rfl (.inr (by rintro _ _ ⟨_, _, _, _, rfl, _, _, rfl⟩; exact ⟨_, (pCons (Sel.sa Sel.hc) (pCons (Sel.sa Sel.hc) pNil))⟩)) ?_
              rintro _ _ ⟨a49, n49_, c49, B49, rfl, N49, V49, rfl⟩
              refine k_ls (Ls' := (B49 ++ (⟨b5, [.int .i32 p0.Players.2.X, .int .i32 p0.Players.2.Y, .int .i32 p0.Players.2.VX, .int .i32 p0.Players.2.VY, .int .u8 p0.Players.2.Health, .int .u8 p0.Players.2.Cool, .int .u8 p0.Players.2.Face], 24, (0, 0)⟩ :: (⟨b1, [.int .u64 p0.Frame, .int .u64 p0.Seed, .int .i32 p0.Players.1.X, .int .i32 p0.Players.1.Y, .int .i32 p0.Players.1.VX, .int .i32 p0.Players.1.VY, .int .u8 p0.Players.1.Health, .int .u8 p0.Players.1.Cool, .int .u8 p0.Players.1.Face, .int .i32 p0.Players.2.X, .int .i32 p0.Players.2.Y, .int .i32 p0.Players.2.VX, .int .i32 p0.Players.2.VY, .int .u8 p0.Players.2.Health, .int .u8 p0.Players.2.Cool, .int .u8 p0.Players.2.Face, .slice p0a0 p0n0 p0c0, .int .u16 p0.Score.1, .int .u16 p0.Score.2], 30, (0, 0)⟩ :: [])))) (pSub (pCons (Sel.sa Sel.hc) (pCons (Sel.sa Sel.hc) pNil))) ?_
              refine k_val (v := .string ⟨(toB ([p0.Players.2.Health, p0.Players.2.Cool, p0.Players.2.Face] : List Int)).toArray⟩) rfl rfl rfl (pSub (pApp Sel.ha (pCons Sel.hc (pCons Sel.hc pNil)))) (val_b2s (xs := ([p0.Players.2.Health, p0.Players.2.Cool, p0.Players.2.Face] : List Int)) tt_ok rfl rfl rfl rfl N49 (Rds.of_vec V49) ⟨_, Sel.ha⟩) rfl ?_
              replace h := bsome h; obtain ⟨v51, x51, h⟩ := h
              refine k_val (v := .string ⟨v51.toArray⟩) rfl rfl rfl (pSub (pApp Sel.ha (pCons Sel.hc (pCons Sel.hc pNil)))) (val_cat tt_ok rfl rfl x51) rfl ?_
              refine k_val rfl rfl rfl (pSub (pApp Sel.ha (pCons Sel.hc (pCons Sel.hc pNil)))) (stepV_ok tt_ok rfl) rfl ?_
              refine k_end (by kernel_rfl) ?_
              refine wx_block ?_
              refine wx_then ?_
              refine wc_region ?_
              refine wl_pure tt_ok rfl rfl ?_
              refine wl_pure (v := .int .i64 (IntKind.wrap .i64 (j17_4 + (1 : Int)))) tt_ok rfl rfl ?_
              refine wl_pure tt_ok rfl rfl ?_
              refine wl_nil ?_
              exact wx_round m17 (Nat.lt_succ_self m17) ⟨v51, (IntKind.wrap .i64 (j17_4 + (1 : Int))), h, rfl, rfl⟩ (agree_cons rfl (agree_cons rfl (agree_cons rfl (agree_cons rfl agree_nil)))) (pSub (pCons (Sel.sa (Sel.sc Sel.hc)) pNil))
            refine k_chgf rfl rfl (chg_bsv (enc := (e1 .u8)) (xs := ([p0.Players.2.Health, p0.Players.2.Cool, p0.Players.2.Face] : List Int)) tt_ok rfl rfl rfl rfl rfl rfl rfl rfl (e1_len _)) rfl (.inr (by rintro _ _ ⟨_, _, _, _, rfl, _, _, rfl⟩; exact ⟨_, (pCons (Sel.sa Sel.hc) (pCons (Sel.sa Sel.hc) pNil))⟩)) ?_
            rintro _ _ ⟨a49, n49_, c49, B49, rfl, N49, V49, rfl⟩
            refine k_ls (Ls' := (B49 ++ (⟨b5, [.int .i32 p0.Players.2.X, .int .i32 p0.Players.2.Y, .int .i32 p0.Players.2.VX, .int .i32 p0.Players.2.VY, .int .u8 p0.Players.2.Health, .int .u8 p0.Players.2.Cool, .int .u8 p0.Players.2.Face], 24, (0, 0)⟩ :: (⟨b1, [.int .u64 p0.Frame, .int .u64 p0.Seed, .int .i32 p0.Players.1.X, .int .i32 p0.Players.1.Y, .int .i32 p0.Players.1.VX, .int .i32 p0.Players.1.VY, .int .u8 p0.Players.1.Health, .int .u8 p0.Players.1.Cool, .int .u8 p0.Players.1.Face, .int .i32 p0.Players.2.X, .int .i32 p0.Players.2.Y, .int .i32 p0.Players.2.VX, .int .i32 p0.Players.2.VY, .int .u8 p0.Players.2.Health, .int .u8 p0.Players.2.Cool, .int .u8 p0.Players.2.Face, .slice p0a0 p0n0 p0c0, .int .u16 p0.Score.1, .int .u16 p0.Score.2], 30, (0, 0)⟩ :: [])))) (pSub (pCons (Sel.sa Sel.hc) (pCons (Sel.sa Sel.hc) pNil))) ?_
            refine k_val (v := .string ⟨(toB ([p0.Players.2.Health, p0.Players.2.Cool, p0.Players.2.Face] : List Int)).toArray⟩) rfl rfl rfl (pSub (pApp Sel.ha (pCons Sel.hc (pCons Sel.hc pNil)))) (val_b2s (xs := ([p0.Players.2.Health, p0.Players.2.Cool, p0.Players.2.Face] : List Int)) tt_ok rfl rfl rfl rfl N49 (Rds.of_vec V49) ⟨_, Sel.ha⟩) rfl ?_
            replace h := bsome h; obtain ⟨v41, x41, h⟩ := h
            refine k_cq rfl rfl rfl Tryd.call32 rfl rfl rfl (q_pf (k_hindcastref08_signed x41) (fun _ _ => trivial)) rfl (pSub (pApp Sel.ha (pCons Sel.hc (pCons Sel.hc pNil)))) ?_
            replace h := bsome h; obtain ⟨v42, x42, h⟩ := h
            refine k_val (v := .string ⟨v42.toArray⟩) rfl rfl rfl (pSub (pApp Sel.ha (pCons Sel.hc (pCons Sel.hc pNil)))) (val_cat tt_ok rfl rfl x42) rfl ?_
            replace h := bsome h; obtain ⟨v51, x51, h⟩ := h
            refine k_val (v := .string ⟨v51.toArray⟩) rfl rfl rfl (pSub (pApp Sel.ha (pCons Sel.hc (pCons Sel.hc pNil)))) (val_cat tt_ok rfl rfl x51) rfl ?_
            refine k_val rfl rfl rfl (pSub (pApp Sel.ha (pCons Sel.hc (pCons Sel.hc pNil)))) (stepV_ok tt_ok rfl) rfl ?_
            refine k_end (by kernel_rfl) ?_
            refine wx_block ?_
            refine wx_then ?_
            refine wc_region ?_
            refine wl_pure tt_ok rfl rfl ?_
            refine wl_pure (v := .int .i64 (IntKind.wrap .i64 (j17_4 + (1 : Int)))) tt_ok rfl rfl ?_
            refine wl_pure tt_ok rfl rfl ?_
            refine wl_nil ?_
            exact wx_round m17 (Nat.lt_succ_self m17) ⟨v51, (IntKind.wrap .i64 (j17_4 + (1 : Int))), h, rfl, rfl⟩ (agree_cons rfl (agree_cons rfl (agree_cons rfl (agree_cons rfl agree_nil)))) (pSub (pCons (Sel.sa (Sel.sc Sel.hc)) pNil))
          refine k_chgf rfl rfl (chg_bsv (enc := (e1 .u8)) (xs := ([p0.Players.2.Health, p0.Players.2.Cool, p0.Players.2.Face] : List Int)) tt_ok rfl rfl rfl rfl rfl rfl rfl rfl (e1_len _)) rfl (.inr (by rintro _ _ ⟨_, _, _, _, rfl, _, _, rfl⟩; exact ⟨_, (pCons (Sel.sa Sel.hc) (pCons (Sel.sa Sel.hc) pNil))⟩)) ?_
          rintro _ _ ⟨a49, n49_, c49, B49, rfl, N49, V49, rfl⟩
          refine k_ls (Ls' := (B49 ++ (⟨b5, [.int .i32 p0.Players.2.X, .int .i32 p0.Players.2.Y, .int .i32 p0.Players.2.VX, .int .i32 p0.Players.2.VY, .int .u8 p0.Players.2.Health, .int .u8 p0.Players.2.Cool, .int .u8 p0.Players.2.Face], 24, (0, 0)⟩ :: (⟨b1, [.int .u64 p0.Frame, .int .u64 p0.Seed, .int .i32 p0.Players.1.X, .int .i32 p0.Players.1.Y, .int .i32 p0.Players.1.VX, .int .i32 p0.Players.1.VY, .int .u8 p0.Players.1.Health, .int .u8 p0.Players.1.Cool, .int .u8 p0.Players.1.Face, .int .i32 p0.Players.2.X, .int .i32 p0.Players.2.Y, .int .i32 p0.Players.2.VX, .int .i32 p0.Players.2.VY, .int .u8 p0.Players.2.Health, .int .u8 p0.Players.2.Cool, .int .u8 p0.Players.2.Face, .slice p0a0 p0n0 p0c0, .int .u16 p0.Score.1, .int .u16 p0.Score.2], 30, (0, 0)⟩ :: [])))) (pSub (pCons (Sel.sa Sel.hc) (pCons (Sel.sa Sel.hc) pNil))) ?_
          refine k_val (v := .string ⟨(toB ([p0.Players.2.Health, p0.Players.2.Cool, p0.Players.2.Face] : List Int)).toArray⟩) rfl rfl rfl (pSub (pApp Sel.ha (pCons Sel.hc (pCons Sel.hc pNil)))) (val_b2s (xs := ([p0.Players.2.Health, p0.Players.2.Cool, p0.Players.2.Face] : List Int)) tt_ok rfl rfl rfl rfl N49 (Rds.of_vec V49) ⟨_, Sel.ha⟩) rfl ?_
          replace h := bsome h; obtain ⟨v37, x37, h⟩ := h
          refine k_cq rfl rfl rfl Tryd.call32 rfl rfl rfl (q_pf (k_hindcastref08_signed x37) (fun _ _ => trivial)) rfl (pSub (pApp Sel.ha (pCons Sel.hc (pCons Sel.hc pNil)))) ?_
          replace h := bsome h; obtain ⟨v38, x38, h⟩ := h
          refine k_val (v := .string ⟨v38.toArray⟩) rfl rfl rfl (pSub (pApp Sel.ha (pCons Sel.hc (pCons Sel.hc pNil)))) (val_cat tt_ok rfl rfl x38) rfl ?_
          replace h := bsome h; obtain ⟨v41, x41, h⟩ := h
          refine k_cq rfl rfl rfl Tryd.call32 rfl rfl rfl (q_pf (k_hindcastref08_signed x41) (fun _ _ => trivial)) rfl (pSub (pApp Sel.ha (pCons Sel.hc (pCons Sel.hc pNil)))) ?_
          replace h := bsome h; obtain ⟨v42, x42, h⟩ := h
          refine k_val (v := .string ⟨v42.toArray⟩) rfl rfl rfl (pSub (pApp Sel.ha (pCons Sel.hc (pCons Sel.hc pNil)))) (val_cat tt_ok rfl rfl x42) rfl ?_
          replace h := bsome h; obtain ⟨v51, x51, h⟩ := h
          refine k_val (v := .string ⟨v51.toArray⟩) rfl rfl rfl (pSub (pApp Sel.ha (pCons Sel.hc (pCons Sel.hc pNil)))) (val_cat tt_ok rfl rfl x51) rfl ?_
          refine k_val rfl rfl rfl (pSub (pApp Sel.ha (pCons Sel.hc (pCons Sel.hc pNil)))) (stepV_ok tt_ok rfl) rfl ?_
          refine k_end (by kernel_rfl) ?_
          refine wx_block ?_
          refine wx_then ?_
          refine wc_region ?_
          refine wl_pure tt_ok rfl rfl ?_
          refine wl_pure (v := .int .i64 (IntKind.wrap .i64 (j17_4 + (1 : Int)))) tt_ok rfl rfl ?_
          refine wl_pure tt_ok rfl rfl ?_
          refine wl_nil ?_
          exact wx_round m17 (Nat.lt_succ_self m17) ⟨v51, (IntKind.wrap .i64 (j17_4 + (1 : Int))), h, rfl, rfl⟩ (agree_cons rfl (agree_cons rfl (agree_cons rfl (agree_cons rfl agree_nil)))) (pSub (pCons (Sel.sa (Sel.sc Sel.hc)) pNil))
        refine k_chgf rfl rfl (chg_bsv (enc := (e1 .u8)) (xs := ([p0.Players.2.Health, p0.Players.2.Cool, p0.Players.2.Face] : List Int)) tt_ok rfl rfl rfl rfl rfl rfl rfl rfl (e1_len _)) rfl (.inr (by rintro _ _ ⟨_, _, _, _, rfl, _, _, rfl⟩; exact ⟨_, (pCons (Sel.sa Sel.hc) (pCons (Sel.sa Sel.hc) pNil))⟩)) ?_
        rintro _ _ ⟨a49, n49_, c49, B49, rfl, N49, V49, rfl⟩
        refine k_ls (Ls' := (B49 ++ (⟨b5, [.int .i32 p0.Players.2.X, .int .i32 p0.Players.2.Y, .int .i32 p0.Players.2.VX, .int .i32 p0.Players.2.VY, .int .u8 p0.Players.2.Health, .int .u8 p0.Players.2.Cool, .int .u8 p0.Players.2.Face], 24, (0, 0)⟩ :: (⟨b1, [.int .u64 p0.Frame, .int .u64 p0.Seed, .int .i32 p0.Players.1.X, .int .i32 p0.Players.1.Y, .int .i32 p0.Players.1.VX, .int .i32 p0.Players.1.VY, .int .u8 p0.Players.1.Health, .int .u8 p0.Players.1.Cool, .int .u8 p0.Players.1.Face, .int .i32 p0.Players.2.X, .int .i32 p0.Players.2.Y, .int .i32 p0.Players.2.VX, .int .i32 p0.Players.2.VY, .int .u8 p0.Players.2.Health, .int .u8 p0.Players.2.Cool, .int .u8 p0.Players.2.Face, .slice p0a0 p0n0 p0c0, .int .u16 p0.Score.1, .int .u16 p0.Score.2], 30, (0, 0)⟩ :: [])))) (pSub (pCons (Sel.sa Sel.hc) (pCons (Sel.sa Sel.hc) pNil))) ?_
        refine k_val (v := .string ⟨(toB ([p0.Players.2.Health, p0.Players.2.Cool, p0.Players.2.Face] : List Int)).toArray⟩) rfl rfl rfl (pSub (pApp Sel.ha (pCons Sel.hc (pCons Sel.hc pNil)))) (val_b2s (xs := ([p0.Players.2.Health, p0.Players.2.Cool, p0.Players.2.Face] : List Int)) tt_ok rfl rfl rfl rfl N49 (Rds.of_vec V49) ⟨_, Sel.ha⟩) rfl ?_
        replace h := bsome h; obtain ⟨v33, x33, h⟩ := h
        refine k_cq rfl rfl rfl Tryd.call32 rfl rfl rfl (q_pf (k_hindcastref08_signed x33) (fun _ _ => trivial)) rfl (pSub (pApp Sel.ha (pCons Sel.hc (pCons Sel.hc pNil)))) ?_
        replace h := bsome h; obtain ⟨v34, x34, h⟩ := h
        refine k_val (v := .string ⟨v34.toArray⟩) rfl rfl rfl (pSub (pApp Sel.ha (pCons Sel.hc (pCons Sel.hc pNil)))) (val_cat tt_ok rfl rfl x34) rfl ?_
        replace h := bsome h; obtain ⟨v37, x37, h⟩ := h
        refine k_cq rfl rfl rfl Tryd.call32 rfl rfl rfl (q_pf (k_hindcastref08_signed x37) (fun _ _ => trivial)) rfl (pSub (pApp Sel.ha (pCons Sel.hc (pCons Sel.hc pNil)))) ?_
        replace h := bsome h; obtain ⟨v38, x38, h⟩ := h
        refine k_val (v := .string ⟨v38.toArray⟩) rfl rfl rfl (pSub (pApp Sel.ha (pCons Sel.hc (pCons Sel.hc pNil)))) (val_cat tt_ok rfl rfl x38) rfl ?_
        replace h := bsome h; obtain ⟨v41, x41, h⟩ := h
        refine k_cq rfl rfl rfl Tryd.call32 rfl rfl rfl (q_pf (k_hindcastref08_signed x41) (fun _ _ => trivial)) rfl (pSub (pApp Sel.ha (pCons Sel.hc (pCons Sel.hc pNil)))) ?_
        replace h := bsome h; obtain ⟨v42, x42, h⟩ := h
        refine k_val (v := .string ⟨v42.toArray⟩) rfl rfl rfl (pSub (pApp Sel.ha (pCons Sel.hc (pCons Sel.hc pNil)))) (val_cat tt_ok rfl rfl x42) rfl ?_
        replace h := bsome h; obtain ⟨v51, x51, h⟩ := h
        refine k_val (v := .string ⟨v51.toArray⟩) rfl rfl rfl (pSub (pApp Sel.ha (pCons Sel.hc (pCons Sel.hc pNil)))) (val_cat tt_ok rfl rfl x51) rfl ?_
        refine k_val rfl rfl rfl (pSub (pApp Sel.ha (pCons Sel.hc (pCons Sel.hc pNil)))) (stepV_ok tt_ok rfl) rfl ?_
        refine k_end (by kernel_rfl) ?_
        refine wx_block ?_
        refine wx_then ?_
        refine wc_region ?_
        refine wl_pure tt_ok rfl rfl ?_
        refine wl_pure (v := .int .i64 (IntKind.wrap .i64 (j17_4 + (1 : Int)))) tt_ok rfl rfl ?_
        refine wl_pure tt_ok rfl rfl ?_
        refine wl_nil ?_
        exact wx_round m17 (Nat.lt_succ_self m17) ⟨v51, (IntKind.wrap .i64 (j17_4 + (1 : Int))), h, rfl, rfl⟩ (agree_cons rfl (agree_cons rfl (agree_cons rfl (agree_cons rfl agree_nil)))) (pSub (pCons (Sel.sa (Sel.sc Sel.hc)) pNil))
      refine k_chgf rfl rfl (chg_bsv (enc := (e1 .u8)) (xs := ([p0.Players.2.Health, p0.Players.2.Cool, p0.Players.2.Face] : List Int)) tt_ok rfl rfl rfl rfl rfl rfl rfl rfl (e1_len _)) rfl (.inr (by rintro _ _ ⟨_, _, _, _, rfl, _, _, rfl⟩; exact ⟨_, (pCons (Sel.sa Sel.hc) (pCons (Sel.sa Sel.hc) pNil))⟩)) ?_
      rintro _ _ ⟨a49, n49_, c49, B49, rfl, N49, V49, rfl⟩
      refine k_ls (Ls' := (B49 ++ (⟨b5, [.int .i32 p0.Players.2.X, .int .i32 p0.Players.2.Y, .int .i32 p0.Players.2.VX, .int .i32 p0.Players.2.VY, .int .u8 p0.Players.2.Health, .int .u8 p0.Players.2.Cool, .int .u8 p0.Players.2.Face], 24, (0, 0)⟩ :: (⟨b1, [.int .u64 p0.Frame, .int .u64 p0.Seed, .int .i32 p0.Players.1.X, .int .i32 p0.Players.1.Y, .int .i32 p0.Players.1.VX, .int .i32 p0.Players.1.VY, .int .u8 p0.Players.1.Health, .int .u8 p0.Players.1.Cool, .int .u8 p0.Players.1.Face, .int .i32 p0.Players.2.X, .int .i32 p0.Players.2.Y, .int .i32 p0.Players.2.VX, .int .i32 p0.Players.2.VY, .int .u8 p0.Players.2.Health, .int .u8 p0.Players.2.Cool, .int .u8 p0.Players.2.Face, .slice p0a0 p0n0 p0c0, .int .u16 p0.Score.1, .int .u16 p0.Score.2], 30, (0, 0)⟩ :: [])))) (pSub (pCons (Sel.sa Sel.hc) (pCons (Sel.sa Sel.hc) pNil))) ?_
      refine k_val (v := .string ⟨(toB ([p0.Players.2.Health, p0.Players.2.Cool, p0.Players.2.Face] : List Int)).toArray⟩) rfl rfl rfl (pSub (pApp Sel.ha (pCons Sel.hc (pCons Sel.hc pNil)))) (val_b2s (xs := ([p0.Players.2.Health, p0.Players.2.Cool, p0.Players.2.Face] : List Int)) tt_ok rfl rfl rfl rfl N49 (Rds.of_vec V49) ⟨_, Sel.ha⟩) rfl ?_
      replace h := bsome h; obtain ⟨v29, x29, h⟩ := h
      refine k_cq rfl rfl rfl Tryd.call32 rfl rfl rfl (q_pf (k_hindcastref08_signed x29) (fun _ _ => trivial)) rfl (pSub (pApp Sel.ha (pCons Sel.hc (pCons Sel.hc pNil)))) ?_
      replace h := bsome h; obtain ⟨v30, x30, h⟩ := h
      refine k_val (v := .string ⟨v30.toArray⟩) rfl rfl rfl (pSub (pApp Sel.ha (pCons Sel.hc (pCons Sel.hc pNil)))) (val_cat tt_ok rfl rfl x30) rfl ?_
      replace h := bsome h; obtain ⟨v33, x33, h⟩ := h
      refine k_cq rfl rfl rfl Tryd.call32 rfl rfl rfl (q_pf (k_hindcastref08_signed x33) (fun _ _ => trivial)) rfl (pSub (pApp Sel.ha (pCons Sel.hc (pCons Sel.hc pNil)))) ?_
      replace h := bsome h; obtain ⟨v34, x34, h⟩ := h
      refine k_val (v := .string ⟨v34.toArray⟩) rfl rfl rfl (pSub (pApp Sel.ha (pCons Sel.hc (pCons Sel.hc pNil)))) (val_cat tt_ok rfl rfl x34) rfl ?_
      replace h := bsome h; obtain ⟨v37, x37, h⟩ := h
      refine k_cq rfl rfl rfl Tryd.call32 rfl rfl rfl (q_pf (k_hindcastref08_signed x37) (fun _ _ => trivial)) rfl (pSub (pApp Sel.ha (pCons Sel.hc (pCons Sel.hc pNil)))) ?_
      replace h := bsome h; obtain ⟨v38, x38, h⟩ := h
      refine k_val (v := .string ⟨v38.toArray⟩) rfl rfl rfl (pSub (pApp Sel.ha (pCons Sel.hc (pCons Sel.hc pNil)))) (val_cat tt_ok rfl rfl x38) rfl ?_
      replace h := bsome h; obtain ⟨v41, x41, h⟩ := h
      refine k_cq rfl rfl rfl Tryd.call32 rfl rfl rfl (q_pf (k_hindcastref08_signed x41) (fun _ _ => trivial)) rfl (pSub (pApp Sel.ha (pCons Sel.hc (pCons Sel.hc pNil)))) ?_
      replace h := bsome h; obtain ⟨v42, x42, h⟩ := h
      refine k_val (v := .string ⟨v42.toArray⟩) rfl rfl rfl (pSub (pApp Sel.ha (pCons Sel.hc (pCons Sel.hc pNil)))) (val_cat tt_ok rfl rfl x42) rfl ?_
      replace h := bsome h; obtain ⟨v51, x51, h⟩ := h
      refine k_val (v := .string ⟨v51.toArray⟩) rfl rfl rfl (pSub (pApp Sel.ha (pCons Sel.hc (pCons Sel.hc pNil)))) (val_cat tt_ok rfl rfl x51) rfl ?_
      refine k_val rfl rfl rfl (pSub (pApp Sel.ha (pCons Sel.hc (pCons Sel.hc pNil)))) (stepV_ok tt_ok rfl) rfl ?_
      refine k_end (by kernel_rfl) ?_
      refine wx_block ?_
      refine wx_then ?_
      refine wc_region ?_
      refine wl_pure tt_ok rfl rfl ?_
      refine wl_pure (v := .int .i64 (IntKind.wrap .i64 (j17_4 + (1 : Int)))) tt_ok rfl rfl ?_
      refine wl_pure tt_ok rfl rfl ?_
      refine wl_nil ?_
      exact wx_round m17 (Nat.lt_succ_self m17) ⟨v51, (IntKind.wrap .i64 (j17_4 + (1 : Int))), h, rfl, rfl⟩ (agree_cons rfl (agree_cons rfl (agree_cons rfl (agree_cons rfl agree_nil)))) (pSub (pCons (Sel.sa (Sel.sc Sel.hc)) pNil))
    replace h := cf hx241 h
    cases h
  replace h := cf hc h
  refine wc_exit ?_
  refine wx_then_exit ?_
  simp only [Option.some.injEq] at h
  obtain rfl := h
  have h := hl17; clear hl17; try dsimp only [orE_l, orE_r] at h
  refine wx_then_exit ?_
  refine wx_block_exit ?_
  refine wx_then ?_
  refine wc_seq ?_
  refine wc_region ?_
  refine wl_pure tt_ok rfl rfl ?_
  refine wl_pure (v := .pointer (some ⟨b1, 16, none⟩)) tt_ok rfl rfl ?_
  refine wl_val (v := .slice p0a0 p0n0 p0c0) (val_load tt_ok rfl (List.Mem.head _) rfl) rfl ?_
  refine wl_val (v := .int .i64 (p0.Shots.length : Int)) (val_len tt_ok rfl rfl p0N0) rfl ?_
  refine wl_pure (v := .int .u64 (IntKind.wrap .u64 (p0.Shots.length : Int))) tt_ok rfl rfl ?_
  replace h := bsome h; obtain ⟨v57, x57, h⟩ := h
  refine wl_cq Tryd.call33 rfl rfl rfl (q_pf (k_hindcastref02_Var x57) (fun _ _ => trivial)) rfl ?_
  replace h := bsome h; obtain ⟨v58, x58, h⟩ := h
  refine wl_val (v := .string ⟨v58.toArray⟩) (val_cat tt_ok rfl rfl x58) rfl ?_
  refine wl_pure tt_ok rfl rfl ?_
  refine wl_nil ?_
  refine wx_then ?_
  refine wc_seq ?_
  refine wc_seq ?_
  refine wc_region ?_
  refine wl_pure tt_ok rfl rfl ?_
  refine wl_nil ?_
  refine wx_then ?_
  refine wc_block ?_
  replace h := bsome h; obtain ⟨l36_3, h, hl36⟩ := h
  refine wc_loop (fun m E L => ∃ (j36_3 : (List UInt8)) (j36_6 : Int), m_hindcastref08_Put_L35 F p0 m j36_3 j36_6 = some l36_3 ∧ E = [(1, .pointer (some ⟨b1, 0, none⟩)), (2, .string ⟨([] : List UInt8).toArray⟩), (3, .string ⟨j36_3.toArray⟩), (6, .int .i64 j36_6)] ∧ L = (⟨b1, [.int .u64 p0.Frame, .int .u64 p0.Seed, .int .i32 p0.Players.1.X, .int .i32 p0.Players.1.Y, .int .i32 p0.Players.1.VX, .int .i32 p0.Players.1.VY, .int .u8 p0.Players.1.Health, .int .u8 p0.Players.1.Cool, .int .u8 p0.Players.1.Face, .int .i32 p0.Players.2.X, .int .i32 p0.Players.2.Y, .int .i32 p0.Players.2.VX, .int .i32 p0.Players.2.VY, .int .u8 p0.Players.2.Health, .int .u8 p0.Players.2.Cool, .int .u8 p0.Players.2.Face, .slice p0a0 p0n0 p0c0, .int .u16 p0.Score.1, .int .u16 p0.Score.2], 30, (0, 0)⟩ :: [])) F ⟨v58, (0 : Int), h, rfl, rfl⟩ (agree_cons rfl (agree_cons rfl (agree_cons rfl (agree_cons rfl agree_nil)))) (pSub (pCons Sel.hc pNil)) ?_
  clear h
  rintro m36 _ _ ⟨j36_3, j36_6, h, rfl, rfl⟩
  rcases m36 with _ | m36
  · rw [m_hindcastref08_Put_L35.eq_1] at h; cases h
  rw [m_hindcastref08_Put_L35.eq_2] at h
  refine wc_seq ?_
  refine wc_seq ?_
  refine wc_region ?_
  refine wl_pure tt_ok rfl rfl ?_
  refine wl_pure (v := .pointer (some ⟨b1, 16, none⟩)) tt_ok rfl rfl ?_
  refine wl_val (v := .slice p0a0 p0n0 p0c0) (val_load tt_ok rfl (List.Mem.head _) rfl) rfl ?_
  refine wl_val (v := .int .i64 (p0.Shots.length : Int)) (val_len tt_ok rfl rfl p0N0) rfl ?_
  refine wl_pure (v := .bool (decide (j36_6 < (p0.Shots.length : Int)))) tt_ok rfl rfl ?_
  refine wl_nil ?_
  refine wx_then ?_
  refine wc_cond rfl (fun hc => ?_) (fun hc => ?_)
  · replace h := ct hc h
    refine wc_skip ?_
    refine wx_then ?_
    refine wc_seq ?_
    refine wc_block ?_
    refine wc_seq ?_
    refine wc_region ?_
    refine wl_pure (v := .pointer (some ⟨b1, 16, none⟩)) tt_ok rfl rfl ?_
    refine wl_val (v := .slice p0a0 p0n0 p0c0) (val_load tt_ok rfl (List.Mem.head _) rfl) rfl ?_
    refine wl_pure tt_ok rfl rfl ?_
    replace h := bsome h; obtain ⟨v69, x69, h⟩ := h
    refine wl_val (v := .pointer (some ((adOf p0a0).add (j36_6.toNat * 6 + 0)))) (val_ix (enc := c_T_api_Shot) tt_ok rfl rfl rfl rfl p0N0 p0S0 c_T_api_Shot_len rfl x69) rfl ?_
    refine wl_val (v := .agg #[.int .i32 v69.X, .int .i32 v69.Y, .int .i32 v69.VX, .int .i32 v69.VY, .int .u8 v69.Owner, .int .u8 v69.Life]) (val_le (enc := c_T_api_Shot) (xs := p0.Shots) tt_ok rfl p0S0 rsub_nil c_T_api_Shot_len x69 rfl) rfl ?_
    refine wl_alloc tt_ok rfl rfl (fun b7 => ?_)
    apply wl_store tt_ok; rfl; exact Upd.here; rfl; rfl; rfl; rfl; rfl; rfl
    refine wl_nil ?_
    refine wx_then ?_
    refine wc_k2 (Ls := (⟨b7, [.int .i32 v69.X, .int .i32 v69.Y, .int .i32 v69.VX, .int .i32 v69.VY, .int .u8 v69.Owner, .int .u8 v69.Life], 64, (0, 0)⟩ :: (⟨b1, [.int .u64 p0.Frame, .int .u64 p0.Seed, .int .i32 p0.Players.1.X, .int .i32 p0.Players.1.Y, .int .i32 p0.Players.1.VX, .int .i32 p0.Players.1.VY, .int .u8 p0.Players.1.Health, .int .u8 p0.Players.1.Cool, .int .u8 p0.Players.1.Face, .int .i32 p0.Players.2.X, .int .i32 p0.Players.2.Y, .int .i32 p0.Players.2.VX, .int .i32 p0.Players.2.VY, .int .u8 p0.Players.2.Health, .int .u8 p0.Players.2.Cool, .int .u8 p0.Players.2.Face, .slice p0a0 p0n0 p0c0, .int .u16 p0.Score.1, .int .u16 p0.Score.2], 30, (0, 0)⟩ :: []))) [3, 7, 11, 15, 21] [] [0, 0, 2, 6, 15, 0, 32, 110, 255, 0, 512, 1774, 4095, 0, 8192, 28398, 65535, 0, 131072, 0, 524288, 1966080, 4063232, 8388607, 16777215] [0, 1, 2, 5, 6, 9, 10, 13, 14, 17, 18, 19, 20] (by kernel_rfl) (by kernel_rfl) (by kernel_rfl) ?_
    refine k_val rfl rfl rfl (pSub (pCons Sel.hc (pCons Sel.hc pNil))) (stepV_ok tt_ok rfl) rfl ?_
    refine k_val (v := .pointer (some ⟨b7, 0, none⟩)) rfl rfl rfl (pSub (pCons Sel.hc (pCons Sel.hc pNil))) (stepV_ok tt_ok rfl) rfl ?_
    refine k_val (v := .int .i32 v69.X) rfl rfl rfl (pSub (pCons Sel.hc (pCons Sel.hc pNil))) (val_load tt_ok rfl (List.Mem.head _) rfl) rfl ?_
    refine k_val (v := .pointer (some ⟨b7, 1, none⟩)) rfl rfl rfl (pSub (pCons Sel.hc (pCons Sel.hc pNil))) (stepV_ok tt_ok rfl) rfl ?_
    refine k_val (v := .int .i32 v69.Y) rfl rfl rfl (pSub (pCons Sel.hc (pCons Sel.hc pNil))) (val_load tt_ok rfl (List.Mem.head _) rfl) rfl ?_
    refine k_val (v := .pointer (some ⟨b7, 2, none⟩)) rfl rfl rfl (pSub (pCons Sel.hc (pCons Sel.hc pNil))) (stepV_ok tt_ok rfl) rfl ?_
    refine k_val (v := .int .i32 v69.VX) rfl rfl rfl (pSub (pCons Sel.hc (pCons Sel.hc pNil))) (val_load tt_ok rfl (List.Mem.head _) rfl) rfl ?_
    refine k_val (v := .pointer (some ⟨b7, 3, none⟩)) rfl rfl rfl (pSub (pCons Sel.hc (pCons Sel.hc pNil))) (stepV_ok tt_ok rfl) rfl ?_
    refine k_val (v := .int .i32 v69.VY) rfl rfl rfl (pSub (pCons Sel.hc (pCons Sel.hc pNil))) (val_load tt_ok rfl (List.Mem.head _) rfl) rfl ?_
    refine k_val (v := .pointer (some ⟨b7, 4, none⟩)) rfl rfl rfl (pSub (pCons Sel.hc (pCons Sel.hc pNil))) (stepV_ok tt_ok rfl) rfl ?_
    refine k_val (v := .int .u8 v69.Owner) rfl rfl rfl (pSub (pCons Sel.hc (pCons Sel.hc pNil))) (val_load tt_ok rfl (List.Mem.head _) rfl) rfl ?_
    refine k_val (v := .pointer (some ⟨b7, 5, none⟩)) rfl rfl rfl (pSub (pCons Sel.hc (pCons Sel.hc pNil))) (stepV_ok tt_ok rfl) rfl ?_
    refine k_val (v := .int .u8 v69.Life) rfl rfl rfl (pSub (pCons Sel.hc (pCons Sel.hc pNil))) (val_load tt_ok rfl (List.Mem.head _) rfl) rfl ?_
    refine k_two (i := 3) (j := 21) (t1 := [4]) (t2 := [22, 3, 4, 7, 8, 11, 12, 15, 16, 23, 24]) (by kernel_rfl) (by kernel_rfl) (by kernel_rfl) (by kernel_rfl) ?_ ?_
    · replace h := bsome h; obtain ⟨v74, x74, h⟩ := h
      refine k_cqf rfl rfl Tryd.call32 rfl rfl rfl (q_pf (k_hindcastref08_signed x74) (fun _ _ => trivial)) rfl (pSub (pCons Sel.hc (pCons Sel.hc pNil))) ?_
      replace h := bsome h; obtain ⟨v75, x75, h⟩ := h
      refine k_val (v := .string ⟨v75.toArray⟩) rfl rfl rfl (pSub (pCons Sel.hc (pCons Sel.hc pNil))) (val_cat tt_ok rfl rfl x75) rfl ?_
      refine k_two (i := 7) (j := 21) (t1 := [8]) (t2 := [22, 7, 8, 11, 12, 15, 16, 23, 24]) (by kernel_rfl) (by kernel_rfl) (by kernel_rfl) (by kernel_rfl) ?_ ?_
      · replace h := bsome h; obtain ⟨v78, x78, h⟩ := h
        refine k_cqf rfl rfl Tryd.call32 rfl rfl rfl (q_pf (k_hindcastref08_signed x78) (fun _ _ => trivial)) rfl (pSub (pCons Sel.hc (pCons Sel.hc pNil))) ?_
        replace h := bsome h; obtain ⟨v79, x79, h⟩ := h
        refine k_val (v := .string ⟨v79.toArray⟩) rfl rfl rfl (pSub (pCons Sel.hc (pCons Sel.hc pNil))) (val_cat tt_ok rfl rfl x79) rfl ?_
        refine k_two (i := 11) (j := 21) (t1 := [12]) (t2 := [22, 11, 12, 15, 16, 23, 24]) (by kernel_rfl) (by kernel_rfl) (by kernel_rfl) (by kernel_rfl) ?_ ?_
        · replace h := bsome h; obtain ⟨v82, x82, h⟩ := h
          refine k_cqf rfl rfl Tryd.call32 rfl rfl rfl (q_pf (k_hindcastref08_signed x82) (fun _ _ => trivial)) rfl (pSub (pCons Sel.hc (pCons Sel.hc pNil))) ?_
          replace h := bsome h; obtain ⟨v83, x83, h⟩ := h
          refine k_val (v := .string ⟨v83.toArray⟩) rfl rfl rfl (pSub (pCons Sel.hc (pCons Sel.hc pNil))) (val_cat tt_ok rfl rfl x83) rfl ?_
          refine k_two (i := 15) (j := 21) (t1 := [16, 21, 22, 23, 24]) (t2 := [22, 15, 16, 23, 24]) (by kernel_rfl) (by kernel_rfl) (by kernel_rfl) (by kernel_rfl) ?_ ?_
          · replace h := bsome h; obtain ⟨v86, x86, h⟩ := h
            refine k_cqf rfl rfl Tryd.call32 rfl rfl rfl (q_pf (k_hindcastref08_signed x86) (fun _ _ => trivial)) rfl (pSub (pCons Sel.hc (pCons Sel.hc pNil))) ?_
            replace h := bsome h; obtain ⟨v87, x87, h⟩ := h
            refine k_val (v := .string ⟨v87.toArray⟩) rfl rfl rfl (pSub (pCons Sel.hc (pCons Sel.hc pNil))) (val_cat tt_ok rfl rfl x87) rfl ?_
            refine k_chg rfl rfl rfl (chg_bsv (enc := (e1 .u8)) (xs := ([v69.Owner, v69.Life] : List Int)) tt_ok rfl rfl rfl rfl rfl rfl rfl rfl (e1_len _)) rfl (.inr (by rintro _ _ ⟨_, _, _, _, rfl, _, _, rfl⟩; exact ⟨_, (pCons (Sel.sa Sel.hc) (pCons (Sel.sa Sel.hc) pNil))⟩)) ?_
            rintro _ _ ⟨a92, n92_, c92, B92, rfl, N92, V92, rfl⟩
            refine k_ls (Ls' := (B92 ++ (⟨b7, [.int .i32 v69.X, .int .i32 v69.Y, .int .i32 v69.VX, .int .i32 v69.VY, .int .u8 v69.Owner, .int .u8 v69.Life], 64, (0, 0)⟩ :: (⟨b1, [.int .u64 p0.Frame, .int .u64 p0.Seed, .int .i32 p0.Players.1.X, .int .i32 p0.Players.1.Y, .int .i32 p0.Players.1.VX, .int .i32 p0.Players.1.VY, .int .u8 p0.Players.1.Health, .int .u8 p0.Players.1.Cool, .int .u8 p0.Players.1.Face, .int .i32 p0.Players.2.X, .int .i32 p0.Players.2.Y, .int .i32 p0.Players.2.VX, .int .i32 p0.Players.2.VY, .int .u8 p0.Players.2.Health, .int .u8 p0.Players.2.Cool, .int .u8 p0.Players.2.Face, .slice p0a0 p0n0 p0c0, .int .u16 p0.Score.1, .int .u16 p0.Score.2], 30, (0, 0)⟩ :: [])))) (pSub (pCons (Sel.sa Sel.hc) (pCons (Sel.sa Sel.hc) pNil))) ?_
            refine k_val (v := .string ⟨(toB ([v69.Owner, v69.Life] : List Int)).toArray⟩) rfl rfl rfl (pSub (pApp Sel.ha (pCons Sel.hc (pCons Sel.hc pNil)))) (val_b2s (xs := ([v69.Owner, v69.Life] : List Int)) tt_ok rfl rfl rfl rfl N92 (Rds.of_vec V92) ⟨_, Sel.ha⟩) rfl ?_
            replace h := bsome h; obtain ⟨v94, x94, h⟩ := h
            refine k_val (v := .string ⟨v94.toArray⟩) rfl rfl rfl (pSub (pApp Sel.ha (pCons Sel.hc (pCons Sel.hc pNil)))) (val_cat tt_ok rfl rfl x94) rfl ?_
            refine k_val rfl rfl rfl (pSub (pApp Sel.ha (pCons Sel.hc (pCons Sel.hc pNil)))) (stepV_ok tt_ok rfl) rfl ?_
            refine k_end (by kernel_rfl) ?_
            refine wx_block ?_
            refine wx_then ?_
            refine wc_region ?_
            refine wl_pure tt_ok rfl rfl ?_
            refine wl_pure (v := .int .i64 (IntKind.wrap .i64 (j36_6 + (1 : Int)))) tt_ok rfl rfl ?_
            refine wl_pure tt_ok rfl rfl ?_
            refine wl_nil ?_
            exact wx_round m36 (Nat.lt_succ_self m36) ⟨v94, (IntKind.wrap .i64 (j36_6 + (1 : Int))), h, rfl, rfl⟩ (agree_cons rfl (agree_cons rfl (agree_cons rfl (agree_cons rfl agree_nil)))) (pSub (pCons (Sel.sa (Sel.sc Sel.hc)) pNil))
          refine k_chgf rfl rfl (chg_bsv (enc := (e1 .u8)) (xs := ([v69.Owner, v69.Life] : List Int)) tt_ok rfl rfl rfl rfl rfl rfl rfl rfl (e1_len _)) rfl (.inr (by rintro _ _ ⟨_, _, _, _, rfl, _, _, rfl⟩; exact ⟨_, (pCons (Sel.sa Sel.hc) (pCons (Sel.sa Sel.hc) pNil))⟩)) ?_
          rintro _ _ ⟨a92, n92_, c92, B92, rfl, N92, V92, rfl⟩
          refine k_ls (Ls' := (B92 ++ (⟨b7, [.int .i32 v69.X, .int .i32 v69.Y, .int .i32 v69.VX, .int .i32 v69.VY, .int .u8 v69.Owner, .int .u8 v69.Life], 64, (0, 0)⟩ :: (⟨b1, [.int .u64 p0.Frame, .int .u64 p0.Seed, .int .i32 p0.Players.1.X, .int .i32 p0.Players.1.Y, .int .i32 p0.Players.1.VX, .int .i32 p0.Players.1.VY, .int .u8 p0.Players.1.Health, .int .u8 p0.Players.1.Cool, .int .u8 p0.Players.1.Face, .int .i32 p0.Players.2.X, .int .i32 p0.Players.2.Y, .int .i32 p0.Players.2.VX, .int .i32 p0.Players.2.VY, .int .u8 p0.Players.2.Health, .int .u8 p0.Players.2.Cool, .int .u8 p0.Players.2.Face, .slice p0a0 p0n0 p0c0, .int .u16 p0.Score.1, .int .u16 p0.Score.2], 30, (0, 0)⟩ :: [])))) (pSub (pCons (Sel.sa Sel.hc) (pCons (Sel.sa Sel.hc) pNil))) ?_
          refine k_val (v := .string ⟨(toB ([v69.Owner, v69.Life] : List Int)).toArray⟩) rfl rfl rfl (pSub (pApp Sel.ha (pCons Sel.hc (pCons Sel.hc pNil)))) (val_b2s (xs := ([v69.Owner, v69.Life] : List Int)) tt_ok rfl rfl rfl rfl N92 (Rds.of_vec V92) ⟨_, Sel.ha⟩) rfl ?_
          replace h := bsome h; obtain ⟨v86, x86, h⟩ := h
          refine k_cq rfl rfl rfl Tryd.call32 rfl rfl rfl (q_pf (k_hindcastref08_signed x86) (fun _ _ => trivial)) rfl (pSub (pApp Sel.ha (pCons Sel.hc (pCons Sel.hc pNil)))) ?_
          replace h := bsome h; obtain ⟨v87, x87, h⟩ := h
          refine k_val (v := .string ⟨v87.toArray⟩) rfl rfl rfl (pSub (pApp Sel.ha (pCons Sel.hc (pCons Sel.hc pNil)))) (val_cat tt_ok rfl rfl x87) rfl ?_
          replace h := bsome h; obtain ⟨v94, x94, h⟩ := h
          refine k_val (v := .string ⟨v94.toArray⟩) rfl rfl rfl (pSub (pApp Sel.ha (pCons Sel.hc (pCons Sel.hc pNil)))) (val_cat tt_ok rfl rfl x94) rfl ?_
          refine k_val rfl rfl rfl (pSub (pApp Sel.ha (pCons Sel.hc (pCons Sel.hc pNil)))) (stepV_ok tt_ok rfl) rfl ?_
          refine k_end (by kernel_rfl) ?_
          refine wx_block ?_
          refine wx_then ?_
          refine wc_region ?_
          refine wl_pure tt_ok rfl rfl ?_
          refine wl_pure (v := .int .i64 (IntKind.wrap .i64 (j36_6 + (1 : Int)))) tt_ok rfl rfl ?_
          refine wl_pure tt_ok rfl rfl ?_
          refine wl_nil ?_
          exact wx_round m36 (Nat.lt_succ_self m36) ⟨v94, (IntKind.wrap .i64 (j36_6 + (1 : Int))), h, rfl, rfl⟩ (agree_cons rfl (agree_cons rfl (agree_cons rfl (agree_cons rfl agree_nil)))) (pSub (pCons (Sel.sa (Sel.sc Sel.hc)) pNil))
        refine k_chgf rfl rfl (chg_bsv (enc := (e1 .u8)) (xs := ([v69.Owner, v69.Life] : List Int)) tt_ok rfl rfl rfl rfl rfl rfl rfl rfl (e1_len _)) rfl (.inr (by rintro _ _ ⟨_, _, _, _, rfl, _, _, rfl⟩; exact ⟨_, (pCons (Sel.sa Sel.hc) (pCons (Sel.sa Sel.hc) pNil))⟩)) ?_
        rintro _ _ ⟨a92, n92_, c92, B92, rfl, N92, V92, rfl⟩
        refine k_ls (Ls' := (B92 ++ (⟨b7, [.int .i32 v69.X, .int .i32 v69.Y, .int .i32 v69.VX, .int .i32 v69.VY, .int .u8 v69.Owner, .int .u8 v69.Life], 64, (0, 0)⟩ :: (⟨b1, [.int .u64 p0.Frame, .int .u64 p0.Seed, .int .i32 p0.Players.1.X, .int .i32 p0.Players.1.Y, .int .i32 p0.Players.1.VX, .int .i32 p0.Players.1.VY, .int .u8 p0.Players.1.Health, .int .u8 p0.Players.1.Cool, .int .u8 p0.Players.1.Face, .int .i32 p0.Players.2.X, .int .i32 p0.Players.2.Y, .int .i32 p0.Players.2.VX, .int .i32 p0.Players.2.VY, .int .u8 p0.Players.2.Health, .int .u8 p0.Players.2.Cool, .int .u8 p0.Players.2.Face, .slice p0a0 p0n0 p0c0, .int .u16 p0.Score.1, .int .u16 p0.Score.2], 30, (0, 0)⟩ :: [])))) (pSub (pCons (Sel.sa Sel.hc) (pCons (Sel.sa Sel.hc) pNil))) ?_
        refine k_val (v := .string ⟨(toB ([v69.Owner, v69.Life] : List Int)).toArray⟩) rfl rfl rfl (pSub (pApp Sel.ha (pCons Sel.hc (pCons Sel.hc pNil)))) (val_b2s (xs := ([v69.Owner, v69.Life] : List Int)) tt_ok rfl rfl rfl rfl N92 (Rds.of_vec V92) ⟨_, Sel.ha⟩) rfl ?_
        replace h := bsome h; obtain ⟨v82, x82, h⟩ := h
        refine k_cq rfl rfl rfl Tryd.call32 rfl rfl rfl (q_pf (k_hindcastref08_signed x82) (fun _ _ => trivial)) rfl (pSub (pApp Sel.ha (pCons Sel.hc (pCons Sel.hc pNil)))) ?_
        replace h := bsome h; obtain ⟨v83, x83, h⟩ := h
        refine k_val (v := .string ⟨v83.toArray⟩) rfl rfl rfl (pSub (pApp Sel.ha (pCons Sel.hc (pCons Sel.hc pNil)))) (val_cat tt_ok rfl rfl x83) rfl ?_
        replace h := bsome h; obtain ⟨v86, x86, h⟩ := h
        refine k_cq rfl rfl rfl Tryd.call32 rfl rfl rfl (q_pf (k_hindcastref08_signed x86) (fun _ _ => trivial)) rfl (pSub (pApp Sel.ha (pCons Sel.hc (pCons Sel.hc pNil)))) ?_
        replace h := bsome h; obtain ⟨v87, x87, h⟩ := h
        refine k_val (v := .string ⟨v87.toArray⟩) rfl rfl rfl (pSub (pApp Sel.ha (pCons Sel.hc (pCons Sel.hc pNil)))) (val_cat tt_ok rfl rfl x87) rfl ?_
        replace h := bsome h; obtain ⟨v94, x94, h⟩ := h
        refine k_val (v := .string ⟨v94.toArray⟩) rfl rfl rfl (pSub (pApp Sel.ha (pCons Sel.hc (pCons Sel.hc pNil)))) (val_cat tt_ok rfl rfl x94) rfl ?_
        refine k_val rfl rfl rfl (pSub (pApp Sel.ha (pCons Sel.hc (pCons Sel.hc pNil)))) (stepV_ok tt_ok rfl) rfl ?_
        refine k_end (by kernel_rfl) ?_
        refine wx_block ?_
        refine wx_then ?_
        refine wc_region ?_
        refine wl_pure tt_ok rfl rfl ?_
        refine wl_pure (v := .int .i64 (IntKind.wrap .i64 (j36_6 + (1 : Int)))) tt_ok rfl rfl ?_
        refine wl_pure tt_ok rfl rfl ?_
        refine wl_nil ?_
        exact wx_round m36 (Nat.lt_succ_self m36) ⟨v94, (IntKind.wrap .i64 (j36_6 + (1 : Int))), h, rfl, rfl⟩ (agree_cons rfl (agree_cons rfl (agree_cons rfl (agree_cons rfl agree_nil)))) (pSub (pCons (Sel.sa (Sel.sc Sel.hc)) pNil))
      refine k_chgf rfl rfl (chg_bsv (enc := (e1 .u8)) (xs := ([v69.Owner, v69.Life] : List Int)) tt_ok rfl rfl rfl rfl rfl rfl rfl rfl (e1_len _)) rfl (.inr (by rintro _ _ ⟨_, _, _, _, rfl, _, _, rfl⟩; exact ⟨_, (pCons (Sel.sa Sel.hc) (pCons (Sel.sa Sel.hc) pNil))⟩)) ?_
      rintro _ _ ⟨a92, n92_, c92, B92, rfl, N92, V92, rfl⟩
      refine k_ls (Ls' := (B92 ++ (⟨b7, [.int .i32 v69.X, .int .i32 v69.Y, .int .i32 v69.VX, .int .i32 v69.VY, .int .u8 v69.Owner, .int .u8 v69.Life], 64, (0, 0)⟩ :: (⟨b1, [.int .u64 p0.Frame, .int .u64 p0.Seed, .int .i32 p0.Players.1.X, .int .i32 p0.Players.1.Y, .int .i32 p0.Players.1.VX, .int .i32 p0.Players.1.VY, .int .u8 p0.Players.1.Health, .int .u8 p0.Players.1.Cool, .int .u8 p0.Players.1.Face, .int .i32 p0.Players.2.X, .int .i32 p0.Players.2.Y, .int .i32 p0.Players.2.VX, .int .i32 p0.Players.2.VY, .int .u8 p0.Players.2.Health, .int .u8 p0.Players.2.Cool, .int .u8 p0.Players.2.Face, .slice p0a0 p0n0 p0c0, .int .u16 p0.Score.1, .int .u16 p0.Score.2], 30, (0, 0)⟩ :: [])))) (pSub (pCons (Sel.sa Sel.hc) (pCons (Sel.sa Sel.hc) pNil))) ?_
      refine k_val (v := .string ⟨(toB ([v69.Owner, v69.Life] : List Int)).toArray⟩) rfl rfl rfl (pSub (pApp Sel.ha (pCons Sel.hc (pCons Sel.hc pNil)))) (val_b2s (xs := ([v69.Owner, v69.Life] : List Int)) tt_ok rfl rfl rfl rfl N92 (Rds.of_vec V92) ⟨_, Sel.ha⟩) rfl ?_
      replace h := bsome h; obtain ⟨v78, x78, h⟩ := h
      refine k_cq rfl rfl rfl Tryd.call32 rfl rfl rfl (q_pf (k_hindcastref08_signed x78) (fun _ _ => trivial)) rfl (pSub (pApp Sel.ha (pCons Sel.hc (pCons Sel.hc pNil)))) ?_
      replace h := bsome h; obtain ⟨v79, x79, h⟩ := h
      refine k_val (v := .string ⟨v79.toArray⟩) rfl rfl rfl (pSub (pApp Sel.ha (pCons Sel.hc (pCons Sel.hc pNil)))) (val_cat tt_ok rfl rfl x79) rfl ?_
      replace h := bsome h; obtain ⟨v82, x82, h⟩ := h
      refine k_cq rfl rfl rfl Tryd.call32 rfl rfl rfl (q_pf (k_hindcastref08_signed x82) (fun _ _ => trivial)) rfl (pSub (pApp Sel.ha (pCons Sel.hc (pCons Sel.hc pNil)))) ?_
      replace h := bsome h; obtain ⟨v83, x83, h⟩ := h
      refine k_val (v := .string ⟨v83.toArray⟩) rfl rfl rfl (pSub (pApp Sel.ha (pCons Sel.hc (pCons Sel.hc pNil)))) (val_cat tt_ok rfl rfl x83) rfl ?_
      replace h := bsome h; obtain ⟨v86, x86, h⟩ := h
      refine k_cq rfl rfl rfl Tryd.call32 rfl rfl rfl (q_pf (k_hindcastref08_signed x86) (fun _ _ => trivial)) rfl (pSub (pApp Sel.ha (pCons Sel.hc (pCons Sel.hc pNil)))) ?_
      replace h := bsome h; obtain ⟨v87, x87, h⟩ := h
      refine k_val (v := .string ⟨v87.toArray⟩) rfl rfl rfl (pSub (pApp Sel.ha (pCons Sel.hc (pCons Sel.hc pNil)))) (val_cat tt_ok rfl rfl x87) rfl ?_
      replace h := bsome h; obtain ⟨v94, x94, h⟩ := h
      refine k_val (v := .string ⟨v94.toArray⟩) rfl rfl rfl (pSub (pApp Sel.ha (pCons Sel.hc (pCons Sel.hc pNil)))) (val_cat tt_ok rfl rfl x94) rfl ?_
      refine k_val rfl rfl rfl (pSub (pApp Sel.ha (pCons Sel.hc (pCons Sel.hc pNil)))) (stepV_ok tt_ok rfl) rfl ?_
      refine k_end (by kernel_rfl) ?_
      refine wx_block ?_
      refine wx_then ?_
      refine wc_region ?_
      refine wl_pure tt_ok rfl rfl ?_
      refine wl_pure (v := .int .i64 (IntKind.wrap .i64 (j36_6 + (1 : Int)))) tt_ok rfl rfl ?_
      refine wl_pure tt_ok rfl rfl ?_
      refine wl_nil ?_
      exact wx_round m36 (Nat.lt_succ_self m36) ⟨v94, (IntKind.wrap .i64 (j36_6 + (1 : Int))), h, rfl, rfl⟩ (agree_cons rfl (agree_cons rfl (agree_cons rfl (agree_cons rfl agree_nil)))) (pSub (pCons (Sel.sa (Sel.sc Sel.hc)) pNil))
    refine k_chgf rfl rfl (chg_bsv (enc := (e1 .u8)) (xs := ([v69.Owner, v69.Life] : List Int)) tt_ok rfl rfl rfl rfl rfl rfl rfl rfl (e1_len _)) rfl (.inr (by rintro _ _ ⟨_, _, _, _, rfl, _, _, rfl⟩; exact ⟨_, (pCons (Sel.sa Sel.hc) (pCons (Sel.sa Sel.hc) pNil))⟩)) ?_
    rintro _ _ ⟨a92, n92_, c92, B92, rfl, N92, V92, rfl⟩
    refine k_ls (Ls' := (B92 ++ (⟨b7, [.int .i32 v69.X, .int .i32 v69.Y, .int .i32 v69.VX, .int .i32 v69.VY, .int .u8 v69.Owner, .int .u8 v69.Life], 64, (0, 0)⟩ :: (⟨b1, [.int .u64 p0.Frame, .int .u64 p0.Seed, .int .i32 p0.Players.1.X, .int .i32 p0.Players.1.Y, .int .i32 p0.Players.1.VX, .int .i32 p0.Players.1.VY, .int .u8 p0.Players.1.Health, .int .u8 p0.Players.1.Cool, .int .u8 p0.Players.1.Face, .int .i32 p0.Players.2.X, .int .i32 p0.Players.2.Y, .int .i32 p0.Players.2.VX, .int .i32 p0.Players.2.VY, .int .u8 p0.Players.2.Health, .int .u8 p0.Players.2.Cool, .int .u8 p0.Players.2.Face, .slice p0a0 p0n0 p0c0, .int .u16 p0.Score.1, .int .u16 p0.Score.2], 30, (0, 0)⟩ :: [])))) (pSub (pCons (Sel.sa Sel.hc) (pCons (Sel.sa Sel.hc) pNil))) ?_
    refine k_val (v := .string ⟨(toB ([v69.Owner, v69.Life] : List Int)).toArray⟩) rfl rfl rfl (pSub (pApp Sel.ha (pCons Sel.hc (pCons Sel.hc pNil)))) (val_b2s (xs := ([v69.Owner, v69.Life] : List Int)) tt_ok rfl rfl rfl rfl N92 (Rds.of_vec V92) ⟨_, Sel.ha⟩) rfl ?_
    replace h := bsome h; obtain ⟨v74, x74, h⟩ := h
    refine k_cq rfl rfl rfl Tryd.call32 rfl rfl rfl (q_pf (k_hindcastref08_signed x74) (fun _ _ => trivial)) rfl (pSub (pApp Sel.ha (pCons Sel.hc (pCons Sel.hc pNil)))) ?_
    replace h := bsome h; obtain ⟨v75, x75, h⟩ := h
    refine k_val (v := .string ⟨v75.toArray⟩) rfl rfl rfl (pSub (pApp Sel.ha (pCons Sel.hc (pCons Sel.hc pNil)))) (val_cat tt_ok rfl rfl x75) rfl ?_
    replace h := bsome h; obtain ⟨v78, x78, h⟩ := h
    refine k_cq rfl rfl rfl Tryd.call32 rfl rfl rfl (q_pf (k_hindcastref08_signed x78) (fun _ _ => trivial)) rfl (pSub (pApp Sel.ha (pCons Sel.hc (pCons Sel.hc pNil)))) ?_
    replace h := bsome h; obtain ⟨v79, x79, h⟩ := h
    refine k_val (v := .string ⟨v79.toArray⟩) rfl rfl rfl (pSub (pApp Sel.ha (pCons Sel.hc (pCons Sel.hc pNil)))) (val_cat tt_ok rfl rfl x79) rfl ?_
    replace h := bsome h; obtain ⟨v82, x82, h⟩ := h
    refine k_cq rfl rfl rfl Tryd.call32 rfl rfl rfl (q_pf (k_hindcastref08_signed x82) (fun _ _ => trivial)) rfl (pSub (pApp Sel.ha (pCons Sel.hc (pCons Sel.hc pNil)))) ?_
    replace h := bsome h; obtain ⟨v83, x83, h⟩ := h
    refine k_val (v := .string ⟨v83.toArray⟩) rfl rfl rfl (pSub (pApp Sel.ha (pCons Sel.hc (pCons Sel.hc pNil)))) (val_cat tt_ok rfl rfl x83) rfl ?_
    replace h := bsome h; obtain ⟨v86, x86, h⟩ := h
    refine k_cq rfl rfl rfl Tryd.call32 rfl rfl rfl (q_pf (k_hindcastref08_signed x86) (fun _ _ => trivial)) rfl (pSub (pApp Sel.ha (pCons Sel.hc (pCons Sel.hc pNil)))) ?_
    replace h := bsome h; obtain ⟨v87, x87, h⟩ := h
    refine k_val (v := .string ⟨v87.toArray⟩) rfl rfl rfl (pSub (pApp Sel.ha (pCons Sel.hc (pCons Sel.hc pNil)))) (val_cat tt_ok rfl rfl x87) rfl ?_
    replace h := bsome h; obtain ⟨v94, x94, h⟩ := h
    refine k_val (v := .string ⟨v94.toArray⟩) rfl rfl rfl (pSub (pApp Sel.ha (pCons Sel.hc (pCons Sel.hc pNil)))) (val_cat tt_ok rfl rfl x94) rfl ?_
    refine k_val rfl rfl rfl (pSub (pApp Sel.ha (pCons Sel.hc (pCons Sel.hc pNil)))) (stepV_ok tt_ok rfl) rfl ?_
    refine k_end (by kernel_rfl) ?_
    refine wx_block ?_
    refine wx_then ?_
    refine wc_region ?_
    refine wl_pure tt_ok rfl rfl ?_
    refine wl_pure (v := .int .i64 (IntKind.wrap .i64 (j36_6 + (1 : Int)))) tt_ok rfl rfl ?_
    refine wl_pure tt_ok rfl rfl ?_
    refine wl_nil ?_
    exact wx_round m36 (Nat.lt_succ_self m36) ⟨v94, (IntKind.wrap .i64 (j36_6 + (1 : Int))), h, rfl, rfl⟩ (agree_cons rfl (agree_cons rfl (agree_cons rfl (agree_cons rfl agree_nil)))) (pSub (pCons (Sel.sa (Sel.sc Sel.hc)) pNil))
  replace h := cf hc h
  refine wc_exit ?_
  refine wx_then_exit ?_
  simp only [Option.some.injEq] at h
  obtain rfl := h
  have h := hl36; clear hl36; try dsimp only [orE_l, orE_r] at h
  refine wx_then_exit ?_
  refine wx_block_exit ?_
  refine wx_then ?_
  refine wc_seq ?_
  refine wc_quiet (by kernel_rfl) (by kernel_rfl) ?_
  refine wq_pure tt_ok rfl rfl ?_
  refine wq_pure (v := .pointer (some ⟨b1, 17, none⟩)) tt_ok rfl rfl ?_
  refine wq_val (v := .pointer (some ⟨b1, 17, none⟩)) (val_ia (j := 0) tt_ok rfl rfl rfl rfl rfl rfl rfl) rfl ?_
  refine wq_val (v := .int .u16 p0.Score.1) (val_load tt_ok rfl (List.Mem.head _) rfl) rfl ?_
  refine wq_pure (v := .int .u64 (IntKind.wrap .u64 p0.Score.1)) tt_ok rfl rfl ?_
  replace h := bsome h; obtain ⟨v100, x100, h⟩ := h
  refine wq_cq Tryd.call31 rfl rfl rfl (q_pf (k_hindcastref02_Number x100) (fun _ _ => trivial)) rfl ?_
  replace h := bsome h; obtain ⟨v101, x101, h⟩ := h
  refine wq_val (v := .string ⟨v101.toArray⟩) (val_cat tt_ok rfl rfl x101) rfl ?_
  refine wq_pure (v := .pointer (some ⟨b1, 17, none⟩)) tt_ok rfl rfl ?_
  refine wq_val (v := .pointer (some ⟨b1, 18, none⟩)) (val_ia (j := 1) tt_ok rfl rfl rfl rfl rfl rfl rfl) rfl ?_
  refine wq_val (v := .int .u16 p0.Score.2) (val_load tt_ok rfl (List.Mem.head _) rfl) rfl ?_
  refine wq_pure (v := .int .u64 (IntKind.wrap .u64 p0.Score.2)) tt_ok rfl rfl ?_
  replace h := bsome h; obtain ⟨v106, x106, h⟩ := h
  refine wq_cq Tryd.call31 rfl rfl rfl (q_pf (k_hindcastref02_Number x106) (fun _ _ => trivial)) rfl ?_
  replace h := bsome h; obtain ⟨v107, x107, h⟩ := h
  refine wq_val (v := .string ⟨v107.toArray⟩) (val_cat tt_ok rfl rfl x107) rfl ?_
  refine wq_pure tt_ok rfl rfl ?_
  refine wq_nil ?_
  refine wx_then ?_
  refine wc_ret ?_
  simp only [Option.some.injEq] at h
  obtain rfl := h
  exact wx_pf tt_ok (.inl rfl) Tryd.results20 (Res.tmp rfl Res.nil) rfl

theorem k_hindcastref10_Of {F : Nat} {p0 : T_api_State} {p0a0 : Option Addr} {p0n0 p0c0 : Nat} {r0 : Int} (p0N0 : p0n0 = p0.Shots.length) (p0H0 : p0n0 ≤ p0c0) (h : m_hindcastref10_Of F p0 = some r0) :
    Pf Tryd.prog 12 [.agg #[.int .u64 p0.Frame, .int .u64 p0.Seed, .int .i32 p0.Players.1.X, .int .i32 p0.Players.1.Y, .int .i32 p0.Players.1.VX, .int .i32 p0.Players.1.VY, .int .u8 p0.Players.1.Health, .int .u8 p0.Players.1.Cool, .int .u8 p0.Players.1.Face, .int .i32 p0.Players.2.X, .int .i32 p0.Players.2.Y, .int .i32 p0.Players.2.VX, .int .i32 p0.Players.2.VY, .int .u8 p0.Players.2.Health, .int .u8 p0.Players.2.Cool, .int .u8 p0.Players.2.Face, .slice p0a0 p0n0 p0c0, .int .u16 p0.Score.1, .int .u16 p0.Score.2]] (fun w => Rds w [] [] p0a0 (flat c_T_api_Shot p0.Shots)) (.int .u64 r0) := by
  unfold m_hindcastref10_Of at h
  refine pf_of_wc Tryd.func12 rfl Tryd.ntmps12 rfl rfl (fun w0 hR => ?_)
  have p0S0 := hR
  refine wc_seq ?_
  refine wc_region ?_
  refine wl_box rfl rfl rfl (fun b1 => ?_)
  refine wl_pure tt_ok rfl rfl ?_
  refine wl_nil ?_
  refine wx_then ?_
  refine wc_seq ?_
  refine wc_region ?_
  refine wl_val (v := .agg #[.int .u64 p0.Frame, .int .u64 p0.Seed, .int .i32 p0.Players.1.X, .int .i32 p0.Players.1.Y, .int .i32 p0.Players.1.VX, .int .i32 p0.Players.1.VY, .int .u8 p0.Players.1.Health, .int .u8 p0.Players.1.Cool, .int .u8 p0.Players.1.Face, .int .i32 p0.Players.2.X, .int .i32 p0.Players.2.Y, .int .i32 p0.Players.2.VX, .int .i32 p0.Players.2.VY, .int .u8 p0.Players.2.Health, .int .u8 p0.Players.2.Cool, .int .u8 p0.Players.2.Face, .slice p0a0 p0n0 p0c0, .int .u16 p0.Score.1, .int .u16 p0.Score.2]) (val_load tt_ok rfl (List.Mem.head _) rfl) rfl ?_
  replace h := bsome h; obtain ⟨v4, x4, h⟩ := h
  refine wl_cq Tryd.call20 rfl rfl rfl (q_pf (k_hindcastref08_Put (p0 := p0) p0N0 p0H0 x4) (Rds.call p0S0 pNil rsub_nil)) rfl ?_
  replace h := bsome h; obtain ⟨v5, x5, h⟩ := h
  refine wl_cq Tryd.call10 rfl rfl rfl (q_pf (k_hindcastref10_Join x5) (fun _ _ => trivial)) rfl ?_
  refine wl_pure tt_ok rfl rfl ?_
  refine wl_nil ?_
  refine wx_then ?_
  refine wc_ret ?_
  simp only [Option.some.injEq] at h
  obtain rfl := h
  exact wx_pf tt_ok (.inl rfl) Tryd.results12 (Res.tmp rfl Res.nil) rfl

theorem k_hindcastlaw10_DigestJoins {F : Nat} {p0 : Int} {p1 : (List UInt8)} {p2 : T_api_State} {p2a0 : Option Addr} {p2n0 p2c0 : Nat} {r0 : Bool} (p2N0 : p2n0 = p2.Shots.length) (p2H0 : p2n0 ≤ p2c0) (h : m_hindcastlaw10_DigestJoins F p0 p1 p2 = some r0) :
    Pf Tryd.prog 3 [.int .u64 p0, .string ⟨p1.toArray⟩, .agg #[.int .u64 p2.Frame, .int .u64 p2.Seed, .int .i32 p2.Players.1.X, .int .i32 p2.Players.1.Y, .int .i32 p2.Players.1.VX, .int .i32 p2.Players.1.VY, .int .u8 p2.Players.1.Health, .int .u8 p2.Players.1.Cool, .int .u8 p2.Players.1.Face, .int .i32 p2.Players.2.X, .int .i32 p2.Players.2.Y, .int .i32 p2.Players.2.VX, .int .i32 p2.Players.2.VY, .int .u8 p2.Players.2.Health, .int .u8 p2.Players.2.Cool, .int .u8 p2.Players.2.Face, .slice p2a0 p2n0 p2c0, .int .u16 p2.Score.1, .int .u16 p2.Score.2]] (fun w => Rds w [] [] p2a0 (flat c_T_api_Shot p2.Shots) ∧ Rds w [] [] (some ⟨0, 0, none⟩) (flat (fun _ : Unit => gl_state_playerBounds) [()]) ∧ Rds w [] [] (some ⟨1, 0, none⟩) (flat (fun _ : Unit => gl_state_shotBounds) [()])) (.bool r0) := by
  unfold m_hindcastlaw10_DigestJoins at h
  refine pf_of_wc Tryd.func3 rfl Tryd.ntmps3 rfl rfl (fun w0 hR => ?_)
  obtain ⟨p2S0, G0S, G1S⟩ := hR
  refine wc_seq ?_
  refine wc_region ?_
  refine wl_box rfl rfl rfl (fun b5 => ?_)
  refine wl_pure tt_ok rfl rfl ?_
  refine wl_nil ?_
  refine wx_then ?_
  refine wc_seq ?_
  refine wc_seq ?_
  refine wc_region ?_
  refine wl_pure tt_ok rfl rfl ?_
  refine wl_pure (v := .int .i64 (p1.length : Int)) tt_ok rfl rfl ?_
  refine wl_pure (v := .bool (decide ((3000 : Int) < (p1.length : Int)))) tt_ok rfl rfl ?_
  refine wl_pure tt_ok rfl rfl ?_
  replace h := bsome h; obtain ⟨v15, h, hg15⟩ := h
  refine wl_split (t := 10) rfl (fun hc => ?_) (fun hc => ?_)
  · replace h := ct hc h
    refine wl_skip rfl rfl ?_
    refine wl_skip rfl rfl ?_
    refine wl_skip rfl rfl ?_
    refine wl_skip rfl rfl ?_
    simp only [Option.some.injEq, Prod.mk.injEq] at h
    obtain rfl := h
    have h := hg15; clear hg15
    refine wl_pure (v := .bool true) tt_ok rfl rfl ?_
    refine wl_nil ?_
    refine wx_then ?_
    replace h := ct rfl h
    refine wc_cond_true rfl ?_
    refine wc_seq ?_
    refine wc_region ?_
    replace h := bsome h; obtain ⟨v16, x16, h⟩ := h
    refine wl_cq Tryd.call8 rfl rfl rfl (q_pf (k_hindcastlaw10_works x16) (fun w hI => ⟨(Rds.call G0S pNil rsub_nil) w hI, (Rds.call G1S pNil rsub_nil) w hI⟩)) rfl ?_
    refine wl_pure tt_ok rfl rfl ?_
    refine wl_nil ?_
    refine wx_then ?_
    refine wc_ret ?_
    refine wx_then_ret ?_
    simp only [Option.some.injEq] at h
    obtain rfl := h
    exact wx_pf tt_ok (.inl rfl) Tryd.results3 (Res.tmp rfl Res.nil) rfl
  replace h := cf hc h
  refine wl_run rfl ?_
  refine wl_pure (v := .pointer (some ⟨b5, 16, none⟩)) tt_ok rfl rfl ?_
  refine wl_run rfl ?_
  refine wl_val (v := .slice p2a0 p2n0 p2c0) (val_load tt_ok rfl (List.Mem.head _) rfl) rfl ?_
  refine wl_run rfl ?_
  refine wl_val (v := .int .i64 (p2.Shots.length : Int)) (val_len tt_ok rfl rfl p2N0) rfl ?_
  refine wl_run rfl ?_
  refine wl_pure (v := .bool (decide ((100 : Int) < (p2.Shots.length : Int)))) tt_ok rfl rfl ?_
  simp only [Option.some.injEq, Prod.mk.injEq] at h
  obtain rfl := h
  have h := hg15; clear hg15
  refine wl_pure (v := .bool (decide ((100 : Int) < (p2.Shots.length : Int)))) tt_ok rfl rfl ?_
  refine wl_nil ?_
  refine wx_then ?_
  refine wc_cond rfl (fun hc => ?_) (fun hc => ?_)
  · replace h := ct hc h
    refine wc_seq ?_
    refine wc_region ?_
    replace h := bsome h; obtain ⟨v16, x16, h⟩ := h
    refine wl_cq Tryd.call8 rfl rfl rfl (q_pf (k_hindcastlaw10_works x16) (fun w hI => ⟨(Rds.call G0S pNil rsub_nil) w hI, (Rds.call G1S pNil rsub_nil) w hI⟩)) rfl ?_
    refine wl_pure tt_ok rfl rfl ?_
    refine wl_nil ?_
    refine wx_then ?_
    refine wc_ret ?_
    refine wx_then_ret ?_
    simp only [Option.some.injEq] at h
    obtain rfl := h
    exact wx_pf tt_ok (.inl rfl) Tryd.results3 (Res.tmp rfl Res.nil) rfl
  replace h := cf hc h
  refine wc_skip ?_
  refine wx_then ?_
  refine wc_seq ?_
  refine wc_quiet (by kernel_rfl) (by kernel_rfl) ?_
  refine wq_pure tt_ok rfl rfl ?_
  refine wq_pure tt_ok rfl rfl ?_
  replace h := bsome h; obtain ⟨v19, x19, h⟩ := h
  refine wq_cq Tryd.call9 rfl rfl rfl (q_pf (k_digest_Join x19) (fun _ _ => trivial)) rfl ?_
  refine wq_pure tt_ok rfl rfl ?_
  refine wq_pure tt_ok rfl rfl ?_
  replace h := bsome h; obtain ⟨v22, x22, h⟩ := h
  refine wq_cq Tryd.call10 rfl rfl rfl (q_pf (k_hindcastref10_Join x22) (fun _ _ => trivial)) rfl ?_
  refine wq_pure (v := .bool (v19 == v22)) tt_ok rfl rfl ?_
  refine wq_pure tt_ok rfl rfl ?_
  replace h := bsome h; obtain ⟨v30, h, hg30⟩ := h
  refine wq_split (t := 24) rfl (fun hc => ?_) (fun hc => ?_)
  · replace h := ct hc h
    refine wq_run rfl ?_
    refine wq_val (v := .agg #[.int .u64 p2.Frame, .int .u64 p2.Seed, .int .i32 p2.Players.1.X, .int .i32 p2.Players.1.Y, .int .i32 p2.Players.1.VX, .int .i32 p2.Players.1.VY, .int .u8 p2.Players.1.Health, .int .u8 p2.Players.1.Cool, .int .u8 p2.Players.1.Face, .int .i32 p2.Players.2.X, .int .i32 p2.Players.2.Y, .int .i32 p2.Players.2.VX, .int .i32 p2.Players.2.VY, .int .u8 p2.Players.2.Health, .int .u8 p2.Players.2.Cool, .int .u8 p2.Players.2.Face, .slice p2a0 p2n0 p2c0, .int .u16 p2.Score.1, .int .u16 p2.Score.2]) (val_load tt_ok rfl (List.Mem.head _) rfl) rfl ?_
    replace h := bsome h; obtain ⟨v26, x26, h⟩ := h
    refine wq_run rfl ?_
    refine wq_cq Tryd.call11 rfl rfl rfl (q_pf (k_digest_Of (p0 := p2) p2N0 p2H0 x26) (fun w hI => ⟨(Rds.call p2S0 pNil rsub_nil) w hI, (Rds.call G0S pNil rsub_nil) w hI, (Rds.call G1S pNil rsub_nil) w hI⟩)) rfl ?_
    refine wq_run rfl ?_
    refine wq_val (v := .agg #[.int .u64 p2.Frame, .int .u64 p2.Seed, .int .i32 p2.Players.1.X, .int .i32 p2.Players.1.Y, .int .i32 p2.Players.1.VX, .int .i32 p2.Players.1.VY, .int .u8 p2.Players.1.Health, .int .u8 p2.Players.1.Cool, .int .u8 p2.Players.1.Face, .int .i32 p2.Players.2.X, .int .i32 p2.Players.2.Y, .int .i32 p2.Players.2.VX, .int .i32 p2.Players.2.VY, .int .u8 p2.Players.2.Health, .int .u8 p2.Players.2.Cool, .int .u8 p2.Players.2.Face, .slice p2a0 p2n0 p2c0, .int .u16 p2.Score.1, .int .u16 p2.Score.2]) (val_load tt_ok rfl (List.Mem.head _) rfl) rfl ?_
    replace h := bsome h; obtain ⟨v28, x28, h⟩ := h
    refine wq_run rfl ?_
    refine wq_cq Tryd.call12 rfl rfl rfl (q_pf (k_hindcastref10_Of (p0 := p2) p2N0 p2H0 x28) (Rds.call p2S0 pNil rsub_nil)) rfl ?_
    refine wq_run rfl ?_
    refine wq_pure (v := .bool (v26 == v28)) tt_ok rfl rfl ?_
    simp only [Option.some.injEq, Prod.mk.injEq] at h
    obtain rfl := h
    have h := hg30; clear hg30
    refine wq_pure (v := .bool (v26 == v28)) tt_ok rfl rfl ?_
    refine wq_pure tt_ok rfl rfl ?_
    replace h := bsome h; obtain ⟨v33, h, hg33⟩ := h
    refine wq_split (t := 31) rfl (fun hc => ?_) (fun hc => ?_)
    · replace h := ct hc h
      replace h := bsome h; obtain ⟨v32, x32, h⟩ := h
      refine wq_run rfl ?_
      refine wq_cq Tryd.call8 rfl rfl rfl (q_pf (k_hindcastlaw10_works x32) (fun w hI => ⟨(Rds.call G0S pNil rsub_nil) w hI, (Rds.call G1S pNil rsub_nil) w hI⟩)) rfl ?_
      simp only [Option.some.injEq, Prod.mk.injEq] at h
      obtain rfl := h
      have h := hg33; clear hg33
      refine wq_pure (v := .bool v32) tt_ok rfl rfl ?_
      refine wq_pure tt_ok rfl rfl ?_
      refine wq_nil ?_
      refine wx_then ?_
      refine wc_ret ?_
      simp only [Option.some.injEq] at h
      obtain rfl := h
      exact wx_pf tt_ok (.inl rfl) Tryd.results3 (Res.tmp rfl Res.nil) rfl
    replace h := cf hc h
    refine wq_skip rfl rfl ?_
    simp only [Option.some.injEq, Prod.mk.injEq] at h
    obtain rfl := h
    have h := hg33; clear hg33
    refine wq_pure (v := .bool false) tt_ok rfl rfl ?_
    refine wq_pure tt_ok rfl rfl ?_
    refine wq_nil ?_
    refine wx_then ?_
    refine wc_ret ?_
    simp only [Option.some.injEq] at h
    obtain rfl := h
    exact wx_pf tt_ok (.inl rfl) Tryd.results3 (Res.tmp rfl Res.nil) rfl
  replace h := cf hc h
  refine wq_skip rfl rfl ?_
  refine wq_skip rfl rfl ?_
  refine wq_skip rfl rfl ?_
  refine wq_skip rfl rfl ?_
  refine wq_skip rfl rfl ?_
  simp only [Option.some.injEq, Prod.mk.injEq] at h
  obtain rfl := h
  have h := hg30; clear hg30
  refine wq_pure (v := .bool false) tt_ok rfl rfl ?_
  refine wq_pure tt_ok rfl rfl ?_
  replace h := bsome h; obtain ⟨v33, h, hg33⟩ := h
  replace h := cf rfl h
  refine wq_skip rfl rfl ?_
  simp only [Option.some.injEq, Prod.mk.injEq] at h
  obtain rfl := h
  have h := hg33; clear hg33
  refine wq_pure (v := .bool false) tt_ok rfl rfl ?_
  refine wq_pure tt_ok rfl rfl ?_
  refine wq_nil ?_
  refine wx_then ?_
  refine wc_ret ?_
  simp only [Option.some.injEq] at h
  obtain rfl := h
  exact wx_pf tt_ok (.inl rfl) Tryd.results3 (Res.tmp rfl Res.nil) rfl

end Go.Proofs.YtgnddjlbhfoioaaDoor
