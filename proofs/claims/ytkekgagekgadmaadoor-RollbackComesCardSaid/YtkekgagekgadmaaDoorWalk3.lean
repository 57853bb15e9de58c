/-
  Each function computes what its model says. Printed by a program of this claim's own.
-/
import Derived.Test.YtkekgagekgadmaaDoorTab
import Derived.Test.YtkekgagekgadmaaDoorMod
import Derived.Test.YtkekgagekgadmaaDoorWalk2
namespace Go.Proofs.YtkekgagekgadmaaDoor
open Go.Proofs.YtkekgagekgadmaaDoor.Eng
set_option linter.unusedVariables false
set_option linter.unusedSimpArgs false
set_option maxHeartbeats 4000000
set_option maxRecDepth 20000

theorem k_step_Step {F : Nat} {p0 : T_api_State} {p0a0 : Option Addr} {p0n0 p0c0 : Nat} {p1 : (Int × Int)} {r0 : T_api_State} (p0N0 : p0n0 = p0.Shots.length) (p0H0 : p0n0 ≤ p0c0) (h : m_step_Step F p0 p1 = some r0) :
    SpD Tryd.prog 38 [.agg #[.int .u64 p0.Frame, .int .u64 p0.Seed, .int .i32 p0.Players.1.X, .int .i32 p0.Players.1.Y, .int .i32 p0.Players.1.VX, .int .i32 p0.Players.1.VY, .int .u8 p0.Players.1.Health, .int .u8 p0.Players.1.Cool, .int .u8 p0.Players.1.Face, .int .i32 p0.Players.2.X, .int .i32 p0.Players.2.Y, .int .i32 p0.Players.2.VX, .int .i32 p0.Players.2.VY, .int .u8 p0.Players.2.Health, .int .u8 p0.Players.2.Cool, .int .u8 p0.Players.2.Face, .slice p0a0 p0n0 p0c0, .int .u16 p0.Score.1, .int .u16 p0.Score.2], .agg #[.int .u8 p1.1, .int .u8 p1.2]] [] (fun w => Rds w (ids []) [] p0a0 (flat c_T_api_Shot p0.Shots) ∧ Rds w (ids []) [] (some ⟨0, 0, none⟩) (flat (fun _ : Unit => gl_state_playerBounds) [()]) ∧ Rds w (ids []) [] (some ⟨1, 0, none⟩) (flat (fun _ : Unit => gl_state_shotBounds) [()])) (fun v D => ∃ (r0a0 : Option Addr) (r0n0 : Nat) (r0c0 : Nat) (r0B0 : List Blk), r0n0 = r0.Shots.length ∧ Own 80 6 r0a0 r0n0 r0c0 (flat c_T_api_Shot r0.Shots) r0B0 ∧ v = .agg #[.int .u64 r0.Frame, .int .u64 r0.Seed, .int .i32 r0.Players.1.X, .int .i32 r0.Players.1.Y, .int .i32 r0.Players.1.VX, .int .i32 r0.Players.1.VY, .int .u8 r0.Players.1.Health, .int .u8 r0.Players.1.Cool, .int .u8 r0.Players.1.Face, .int .i32 r0.Players.2.X, .int .i32 r0.Players.2.Y, .int .i32 r0.Players.2.VX, .int .i32 r0.Players.2.VY, .int .u8 r0.Players.2.Health, .int .u8 r0.Players.2.Cool, .int .u8 r0.Players.2.Face, .slice r0a0 r0n0 r0c0, .int .u16 r0.Score.1, .int .u16 r0.Score.2] ∧ D = fun F => (r0B0 ++ F)) := by
  unfold m_step_Step at h
  refine sp_of_wc Tryd.func38 rfl Tryd.ntmps38 rfl rfl (fun w0 hR => ?_)
  obtain ⟨p0S0, G0S, G1S⟩ := hR
  refine wc_seq (wc_region ?_)
  refine wl_box rfl rfl rfl (fun b2 => ?_)
  refine wl_box rfl rfl rfl (fun b3 => ?_)
  refine wl_alloc tt_ok rfl rfl (fun b4 => ?_)
  refine wl_nil (wx_then (wc_seq (wc_region ?_)))
  refine wl_val (v := .agg #[.int .u64 p0.Frame, .int .u64 p0.Seed, .int .i32 p0.Players.1.X, .int .i32 p0.Players.1.Y, .int .i32 p0.Players.1.VX, .int .i32 p0.Players.1.VY, .int .u8 p0.Players.1.Health, .int .u8 p0.Players.1.Cool, .int .u8 p0.Players.1.Face, .int .i32 p0.Players.2.X, .int .i32 p0.Players.2.Y, .int .i32 p0.Players.2.VX, .int .i32 p0.Players.2.VY, .int .u8 p0.Players.2.Health, .int .u8 p0.Players.2.Cool, .int .u8 p0.Players.2.Face, .slice p0a0 p0n0 p0c0, .int .u16 p0.Score.1, .int .u16 p0.Score.2]) (val_load tt_ok rfl (List.Mem.tail _ (List.Mem.tail _ (List.Mem.head _))) rfl) rfl ?_
  replace h := bsome h; obtain ⟨v12, x12, h⟩ := h
  refine wl_cs Tryd.call26 rfl rfl rfl (s_sp (k_state_Copy (p0 := p0) p0N0 p0H0 x12) pNil (Rds.call p0S0 pNil rsub_nil)) rfl ?_
  rintro _ _ ⟨_, ⟨v12a0, v12n0, v12c0, v12B0, v12N0, v12V0, rfl, rfl⟩, rfl⟩
  apply wl_store tt_ok; rfl; exact (Upd.right (Upd.there (Upd.there Upd.here))); rfl; rfl; rfl; rfl; rfl; rfl
  refine wl_nil (wx_then (wc_seq (wc_seq (wc_region ?_))))
  refine wl_val (v := .agg #[.int .u64 v12.Frame, .int .u64 v12.Seed, .int .i32 v12.Players.1.X, .int .i32 v12.Players.1.Y, .int .i32 v12.Players.1.VX, .int .i32 v12.Players.1.VY, .int .u8 v12.Players.1.Health, .int .u8 v12.Players.1.Cool, .int .u8 v12.Players.1.Face, .int .i32 v12.Players.2.X, .int .i32 v12.Players.2.Y, .int .i32 v12.Players.2.VX, .int .i32 v12.Players.2.VY, .int .u8 v12.Players.2.Health, .int .u8 v12.Players.2.Cool, .int .u8 v12.Players.2.Face, .slice v12a0 v12n0 v12c0, .int .u16 v12.Score.1, .int .u16 v12.Score.2]) (val_load tt_ok rfl (mR (List.Mem.tail _ (List.Mem.tail _ (List.Mem.head _)))) rfl) rfl ?_
  replace h := bsome h; obtain ⟨v14, x14, h⟩ := h
  refine wl_cq Tryd.call25 rfl rfl rfl (q_pf (k_state_Check (p0 := v12) v12N0 (vec_cap v12V0) x14) (fun w hI => ⟨(Rds.call (Rds.of_vec v12V0) pNil ⟨_, Sel.ha⟩) w hI, (Rds.call G0S pNil rsub_nil) w hI, (Rds.call G1S pNil rsub_nil) w hI⟩)) rfl ?_
  refine wl_pure (v := .bool (v14 != (0 : Int))) tt_ok rfl rfl ?_
  refine wl_pure tt_ok rfl rfl ?_
  replace h := bsome h; obtain ⟨v21, h, hg21⟩ := h
  refine wl_split (t := 16) rfl (fun hc => ?_) (fun hc => ?_)
  · replace h := ct hc h
    refine wl_skip rfl rfl ?_
    refine wl_skip rfl rfl ?_
    refine wl_skip rfl rfl ?_
    refine wl_skip rfl rfl ?_
    simp only [Option.some.injEq, Prod.mk.injEq] at h
    obtain rfl := h
    have h := hg21; clear hg21
    refine wl_pure (v := .bool true) tt_ok rfl rfl ?_
    refine wl_pure tt_ok rfl rfl ?_
    replace h := bsome h; obtain ⟨v27, h, hg27⟩ := h
    replace h := ct rfl h
    refine wl_skip rfl rfl ?_
    refine wl_skip rfl rfl ?_
    refine wl_skip rfl rfl ?_
    refine wl_skip rfl rfl ?_
    simp only [Option.some.injEq, Prod.mk.injEq] at h
    obtain rfl := h
    have h := hg27; clear hg27
    refine wl_pure (v := .bool true) tt_ok rfl rfl ?_
    refine wl_nil (wx_then ?_)
    replace h := ct rfl h
    refine wc_cond_true rfl ?_
    refine wc_seq (wc_region ?_)
    refine wl_val (v := .agg #[.int .u64 v12.Frame, .int .u64 v12.Seed, .int .i32 v12.Players.1.X, .int .i32 v12.Players.1.Y, .int .i32 v12.Players.1.VX, .int .i32 v12.Players.1.VY, .int .u8 v12.Players.1.Health, .int .u8 v12.Players.1.Cool, .int .u8 v12.Players.1.Face, .int .i32 v12.Players.2.X, .int .i32 v12.Players.2.Y, .int .i32 v12.Players.2.VX, .int .i32 v12.Players.2.VY, .int .u8 v12.Players.2.Health, .int .u8 v12.Players.2.Cool, .int .u8 v12.Players.2.Face, .slice v12a0 v12n0 v12c0, .int .u16 v12.Score.1, .int .u16 v12.Score.2]) (val_load tt_ok rfl (mR (List.Mem.tail _ (List.Mem.tail _ (List.Mem.head _)))) rfl) rfl ?_
    apply wl_store tt_ok; rfl; exact (Upd.right Upd.here); rfl; rfl; rfl; rfl; rfl; rfl
    refine wl_nil (wx_then (wc_ret (wx_then_ret ?_)))
    simp only [Option.some.injEq] at h
    obtain rfl := h
    exact wx_spD tt_ok (.inl rfl) Tryd.results38 (Res.cell rfl (mR (List.Mem.head _)) rfl Res.nil) ⟨v12a0, v12n0, v12c0, v12B0, v12N0, v12V0, rfl, rfl⟩ (fun F => by simp) (pSub (pApp Sel.ha pNil))
  replace h := cf hc h
  refine wl_run rfl ?_
  refine wl_val (v := .pointer (some ⟨b3, 0, none⟩)) (val_ia (j := 0) tt_ok rfl rfl rfl rfl rfl rfl rfl) rfl ?_
  refine wl_run rfl ?_
  refine wl_val (v := .int .u8 p1.1) (val_load tt_ok rfl (mR (List.Mem.tail _ (List.Mem.head _))) rfl) rfl ?_
  replace h := bsome h; obtain ⟨v19, x19, h⟩ := h
  refine wl_run rfl ?_
  refine wl_cq Tryd.call31 rfl rfl rfl (q_pf (k_input_Legal x19) (fun _ _ => trivial)) rfl ?_
  refine wl_run rfl ?_
  refine wl_pure (v := .bool (!v19)) tt_ok rfl rfl ?_
  simp only [Option.some.injEq, Prod.mk.injEq] at h
  obtain rfl := h
  have h := hg21; clear hg21
  refine wl_pure (v := .bool (!v19)) tt_ok rfl rfl ?_
  refine wl_pure tt_ok rfl rfl ?_
  replace h := bsome h; obtain ⟨v27, h, hg27⟩ := h
  refine wl_split (t := 22) rfl (fun hc => ?_) (fun hc => ?_)
  · replace h := ct hc h
    refine wl_skip rfl rfl ?_
    refine wl_skip rfl rfl ?_
    refine wl_skip rfl rfl ?_
    refine wl_skip rfl rfl ?_
    simp only [Option.some.injEq, Prod.mk.injEq] at h
    obtain rfl := h
    have h := hg27; clear hg27
    refine wl_pure (v := .bool true) tt_ok rfl rfl ?_
    refine wl_nil (wx_then ?_)
    replace h := ct rfl h
    refine wc_cond_true rfl ?_
    refine wc_seq (wc_region ?_)
    refine wl_val (v := .agg #[.int .u64 v12.Frame, .int .u64 v12.Seed, .int .i32 v12.Players.1.X, .int .i32 v12.Players.1.Y, .int .i32 v12.Players.1.VX, .int .i32 v12.Players.1.VY, .int .u8 v12.Players.1.Health, .int .u8 v12.Players.1.Cool, .int .u8 v12.Players.1.Face, .int .i32 v12.Players.2.X, .int .i32 v12.Players.2.Y, .int .i32 v12.Players.2.VX, .int .i32 v12.Players.2.VY, .int .u8 v12.Players.2.Health, .int .u8 v12.Players.2.Cool, .int .u8 v12.Players.2.Face, .slice v12a0 v12n0 v12c0, .int .u16 v12.Score.1, .int .u16 v12.Score.2]) (val_load tt_ok rfl (mR (List.Mem.tail _ (List.Mem.tail _ (List.Mem.head _)))) rfl) rfl ?_
    apply wl_store tt_ok; rfl; exact (Upd.right Upd.here); rfl; rfl; rfl; rfl; rfl; rfl
    refine wl_nil (wx_then (wc_ret (wx_then_ret ?_)))
    simp only [Option.some.injEq] at h
    obtain rfl := h
    exact wx_spD tt_ok (.inl rfl) Tryd.results38 (Res.cell rfl (mR (List.Mem.head _)) rfl Res.nil) ⟨v12a0, v12n0, v12c0, v12B0, v12N0, v12V0, rfl, rfl⟩ (fun F => by simp) (pSub (pApp Sel.ha pNil))
  replace h := cf hc h
  refine wl_run rfl ?_
  refine wl_val (v := .pointer (some ⟨b3, 1, none⟩)) (val_ia (j := 1) tt_ok rfl rfl rfl rfl rfl rfl rfl) rfl ?_
  refine wl_run rfl ?_
  refine wl_val (v := .int .u8 p1.2) (val_load tt_ok rfl (mR (List.Mem.tail _ (List.Mem.head _))) rfl) rfl ?_
  replace h := bsome h; obtain ⟨v25, x25, h⟩ := h
  refine wl_run rfl ?_
  refine wl_cq Tryd.call31 rfl rfl rfl (q_pf (k_input_Legal x25) (fun _ _ => trivial)) rfl ?_
  refine wl_run rfl ?_
  refine wl_pure (v := .bool (!v25)) tt_ok rfl rfl ?_
  simp only [Option.some.injEq, Prod.mk.injEq] at h
  obtain rfl := h
  have h := hg27; clear hg27
  refine wl_pure (v := .bool (!v25)) tt_ok rfl rfl ?_
  refine wl_nil (wx_then ?_)
  refine wc_cond rfl (fun hc => ?_) (fun hc => ?_)
  · replace h := ct hc h
    refine wc_seq (wc_region ?_)
    refine wl_val (v := .agg #[.int .u64 v12.Frame, .int .u64 v12.Seed, .int .i32 v12.Players.1.X, .int .i32 v12.Players.1.Y, .int .i32 v12.Players.1.VX, .int .i32 v12.Players.1.VY, .int .u8 v12.Players.1.Health, .int .u8 v12.Players.1.Cool, .int .u8 v12.Players.1.Face, .int .i32 v12.Players.2.X, .int .i32 v12.Players.2.Y, .int .i32 v12.Players.2.VX, .int .i32 v12.Players.2.VY, .int .u8 v12.Players.2.Health, .int .u8 v12.Players.2.Cool, .int .u8 v12.Players.2.Face, .slice v12a0 v12n0 v12c0, .int .u16 v12.Score.1, .int .u16 v12.Score.2]) (val_load tt_ok rfl (mR (List.Mem.tail _ (List.Mem.tail _ (List.Mem.head _)))) rfl) rfl ?_
    apply wl_store tt_ok; rfl; exact (Upd.right Upd.here); rfl; rfl; rfl; rfl; rfl; rfl
    refine wl_nil (wx_then (wc_ret (wx_then_ret ?_)))
    simp only [Option.some.injEq] at h
    obtain rfl := h
    exact wx_spD tt_ok (.inl rfl) Tryd.results38 (Res.cell rfl (mR (List.Mem.head _)) rfl Res.nil) ⟨v12a0, v12n0, v12c0, v12B0, v12N0, v12V0, rfl, rfl⟩ (fun F => by simp) (pSub (pApp Sel.ha pNil))
  replace h := cf hc h
  refine wc_skip (wx_then (wc_seq (wc_seq (wc_region ?_))))
  refine wl_pure tt_ok rfl rfl ?_
  refine wl_nil (wx_then (wc_block ?_))
  replace h := bsome h; obtain ⟨l17_n2_f2, h, hl17⟩ := h
  refine wc_loop (fun m E L => ∃ (j17_29 : Int) (j17_n2_f2 : (T_api_Player × T_api_Player)), m_step_Step_L16 F p1 m j17_29 j17_n2_f2 = some l17_n2_f2 ∧ E = [(2, .pointer (some ⟨b2, 0, none⟩)), (3, .pointer (some ⟨b3, 0, none⟩)), (4, .pointer (some ⟨b4, 0, none⟩)), (29, .int .i64 j17_29)] ∧ L = (⟨b2, [.int .u64 v12.Frame, .int .u64 v12.Seed, .int .i32 j17_n2_f2.1.X, .int .i32 j17_n2_f2.1.Y, .int .i32 j17_n2_f2.1.VX, .int .i32 j17_n2_f2.1.VY, .int .u8 j17_n2_f2.1.Health, .int .u8 j17_n2_f2.1.Cool, .int .u8 j17_n2_f2.1.Face, .int .i32 j17_n2_f2.2.X, .int .i32 j17_n2_f2.2.Y, .int .i32 j17_n2_f2.2.VX, .int .i32 j17_n2_f2.2.VY, .int .u8 j17_n2_f2.2.Health, .int .u8 j17_n2_f2.2.Cool, .int .u8 j17_n2_f2.2.Face, .slice v12a0 v12n0 v12c0, .int .u16 v12.Score.1, .int .u16 v12.Score.2], 36, (0, 0)⟩ :: (⟨b3, [.int .u8 p1.1, .int .u8 p1.2], 45, (0, 0)⟩ :: (⟨b4, [.int .u64 (0 : Int), .int .u64 (0 : Int), .int .i32 (0 : Int), .int .i32 (0 : Int), .int .i32 (0 : Int), .int .i32 (0 : Int), .int .u8 (0 : Int), .int .u8 (0 : Int), .int .u8 (0 : Int), .int .i32 (0 : Int), .int .i32 (0 : Int), .int .i32 (0 : Int), .int .i32 (0 : Int), .int .u8 (0 : Int), .int .u8 (0 : Int), .int .u8 (0 : Int), .slice none 0 0, .int .u16 (0 : Int), .int .u16 (0 : Int)], 36, (0, 0)⟩ :: (v12B0 ++ []))))) F ⟨(0 : Int), v12.Players, h, rfl, rfl⟩ (agree_cons rfl (agree_cons rfl (agree_cons rfl (agree_cons rfl agree_nil)))) (pSub (pCons (Sel.sa (Sel.sc (Sel.sc Sel.hc))) (pCons (Sel.sa (Sel.sc Sel.hc)) (pCons (Sel.sa Sel.hc) (pApp Sel.ha pNil))))) ?_
  clear h
  rintro m17 _ _ ⟨j17_29, j17_n2_f2, h, rfl, rfl⟩
  rcases m17 with _ | m17
  · rw [m_step_Step_L16.eq_1] at h; cases h
  rw [m_step_Step_L16.eq_2] at h
  refine wc_seq (wc_region ?_)
  refine wl_pure (v := .bool (decide (j17_29 < (2 : Int)))) tt_ok rfl rfl ?_
  refine wl_nil (wx_then (wc_seq ?_))
  refine wc_cond rfl (fun hc => ?_) (fun hc => ?_)
  · replace h := ct hc h
    refine wc_skip (wx_then (wc_seq (wc_block (wc_seq (wc_region ?_)))))
    iterate 2 refine wl_pure tt_ok rfl rfl ?_
    refine wl_nil (wx_then ?_)
    refine wc_k2 (Ls := (⟨b2, [.int .u64 v12.Frame, .int .u64 v12.Seed, .int .i32 j17_n2_f2.1.X, .int .i32 j17_n2_f2.1.Y, .int .i32 j17_n2_f2.1.VX, .int .i32 j17_n2_f2.1.VY, .int .u8 j17_n2_f2.1.Health, .int .u8 j17_n2_f2.1.Cool, .int .u8 j17_n2_f2.1.Face, .int .i32 j17_n2_f2.2.X, .int .i32 j17_n2_f2.2.Y, .int .i32 j17_n2_f2.2.VX, .int .i32 j17_n2_f2.2.VY, .int .u8 j17_n2_f2.2.Health, .int .u8 j17_n2_f2.2.Cool, .int .u8 j17_n2_f2.2.Face, .slice v12a0 v12n0 v12c0, .int .u16 v12.Score.1, .int .u16 v12.Score.2], 36, (0, 0)⟩ :: (⟨b3, [.int .u8 p1.1, .int .u8 p1.2], 45, (0, 0)⟩ :: (⟨b4, [.int .u64 (0 : Int), .int .u64 (0 : Int), .int .i32 (0 : Int), .int .i32 (0 : Int), .int .i32 (0 : Int), .int .i32 (0 : Int), .int .u8 (0 : Int), .int .u8 (0 : Int), .int .u8 (0 : Int), .int .i32 (0 : Int), .int .i32 (0 : Int), .int .i32 (0 : Int), .int .i32 (0 : Int), .int .u8 (0 : Int), .int .u8 (0 : Int), .int .u8 (0 : Int), .slice none 0 0, .int .u16 (0 : Int), .int .u16 (0 : Int)], 36, (0, 0)⟩ :: (v12B0 ++ []))))) [8, 10, 11] [10, 11] [0, 0, 0, 6, 14, 0, 32, 96, 254, 0, 1023, 2047] [0, 1, 2, 3, 4, 5, 6, 7, 9, 8, 10, 11] (by kernel_rfl) (by kernel_rfl) (by kernel_rfl) ?_
    refine k_val rfl rfl rfl (pSub (pCons Sel.hc (pCons Sel.hc (pCons Sel.hc (pApp Sel.ha pNil))))) (stepV_ok tt_ok rfl) rfl ?_
    refine k_val rfl rfl rfl (pSub (pCons Sel.hc (pCons Sel.hc (pCons Sel.hc (pApp Sel.ha pNil))))) (stepV_ok tt_ok rfl) rfl ?_
    refine k_val (v := .pointer (some ⟨b2, 2, none⟩)) rfl rfl rfl (pSub (pCons Sel.hc (pCons Sel.hc (pCons Sel.hc (pApp Sel.ha pNil))))) (stepV_ok tt_ok rfl) rfl ?_
    rcases Bool.eq_false_or_eq_true (j17_29 == (0 : Int)) with hx350 | hx350
    · replace h := ct hx350 h
      refine k_val (v := .pointer (some ⟨b2, 2, none⟩)) rfl rfl rfl (pSub (pCons Sel.hc (pCons Sel.hc (pCons Sel.hc (pApp Sel.ha pNil))))) (val_ia (j := 0) tt_ok rfl rfl rfl rfl (by simpa using hx350) rfl rfl) rfl ?_
      refine k_val (v := .agg #[.int .i32 j17_n2_f2.1.X, .int .i32 j17_n2_f2.1.Y, .int .i32 j17_n2_f2.1.VX, .int .i32 j17_n2_f2.1.VY, .int .u8 j17_n2_f2.1.Health, .int .u8 j17_n2_f2.1.Cool, .int .u8 j17_n2_f2.1.Face]) rfl rfl rfl (pSub (pCons Sel.hc (pCons Sel.hc (pCons Sel.hc (pApp Sel.ha pNil))))) (val_load tt_ok rfl (List.Mem.head _) rfl) rfl ?_
      refine k_val rfl rfl rfl (pSub (pCons Sel.hc (pCons Sel.hc (pCons Sel.hc (pApp Sel.ha pNil))))) (stepV_ok tt_ok rfl) rfl ?_
      refine k_val (v := .pointer (some ⟨b3, 0, none⟩)) rfl rfl rfl (pSub (pCons Sel.hc (pCons Sel.hc (pCons Sel.hc (pApp Sel.ha pNil))))) (val_ia (j := 0) tt_ok rfl rfl rfl rfl (by simpa using hx350) rfl rfl) rfl ?_
      refine k_val (v := .int .u8 p1.1) rfl rfl rfl (pSub (pCons Sel.hc (pCons Sel.hc (pCons Sel.hc (pApp Sel.ha pNil))))) (val_load tt_ok rfl (List.Mem.tail _ (List.Mem.head _)) rfl) rfl ?_
      refine k_val (v := .pointer (some ⟨b2, 2, none⟩)) rfl rfl rfl (pSub (pCons Sel.hc (pCons Sel.hc (pCons Sel.hc (pApp Sel.ha pNil))))) (stepV_ok tt_ok rfl) rfl ?_
      replace h := bsome h; obtain ⟨v40, x40, h⟩ := h
      refine k_cq rfl rfl rfl Tryd.call54 rfl rfl rfl (q_pf (k_step_steer x40) (fun _ _ => trivial)) rfl (pSub (pCons Sel.hc (pCons Sel.hc (pCons Sel.hc (pApp Sel.ha pNil))))) ?_
      refine k_chg rfl rfl rfl (Chg.of_val (v := .pointer (some ⟨b2, 2, none⟩)) (val_ia (j := 0) tt_ok rfl rfl rfl rfl (by simpa using hx350) rfl rfl)) rfl (.inl rfl) ?_
      rintro _ _ ⟨rfl, rfl⟩
      refine k_chg0 rfl rfl rfl (chg_store tt_ok rfl Upd.here rfl rfl rfl rfl rfl rfl) (.inl rfl) ?_
      rintro _ _ rfl
      refine k_end (by kernel_rfl) ?_
      refine wx_block (wx_then (wc_region ?_))
      refine wl_pure (v := .int .i64 (IntKind.wrap .i64 (j17_29 + (1 : Int)))) tt_ok rfl rfl ?_
      refine wl_pure tt_ok rfl rfl ?_
      refine wl_nil ?_
      exact wx_round m17 (Nat.lt_succ_self m17) ⟨(IntKind.wrap .i64 (j17_29 + (1 : Int))), (v40, j17_n2_f2.2), h, rfl, rfl⟩ (agree_cons rfl (agree_cons rfl (agree_cons rfl (agree_cons rfl agree_nil)))) (pSub (pCons Sel.hc (pCons Sel.hc (pCons Sel.hc (pApp Sel.ha pNil)))))
    replace h := cf hx350 h
    rcases Bool.eq_false_or_eq_true (j17_29 == (1 : Int)) with hx351 | hx351
    · replace h := ct hx351 h
      refine k_val (v := .pointer (some ⟨b2, 9, none⟩)) rfl rfl rfl (pSub (pCons Sel.hc (pCons Sel.hc (pCons Sel.hc (pApp Sel.ha pNil))))) (val_ia (j := 1) tt_ok rfl rfl rfl rfl (by simpa using hx351) rfl rfl) rfl ?_
      refine k_val (v := .agg #[.int .i32 j17_n2_f2.2.X, .int .i32 j17_n2_f2.2.Y, .int .i32 j17_n2_f2.2.VX, .int .i32 j17_n2_f2.2.VY, .int .u8 j17_n2_f2.2.Health, .int .u8 j17_n2_f2.2.Cool, .int .u8 j17_n2_f2.2.Face]) rfl rfl rfl (pSub (pCons Sel.hc (pCons Sel.hc (pCons Sel.hc (pApp Sel.ha pNil))))) (val_load tt_ok rfl (List.Mem.head _) rfl) rfl ?_
      refine k_val rfl rfl rfl (pSub (pCons Sel.hc (pCons Sel.hc (pCons Sel.hc (pApp Sel.ha pNil))))) (stepV_ok tt_ok rfl) rfl ?_
      refine k_val (v := .pointer (some ⟨b3, 1, none⟩)) rfl rfl rfl (pSub (pCons Sel.hc (pCons Sel.hc (pCons Sel.hc (pApp Sel.ha pNil))))) (val_ia (j := 1) tt_ok rfl rfl rfl rfl (by simpa using hx351) rfl rfl) rfl ?_
      refine k_val (v := .int .u8 p1.2) rfl rfl rfl (pSub (pCons Sel.hc (pCons Sel.hc (pCons Sel.hc (pApp Sel.ha pNil))))) (val_load tt_ok rfl (List.Mem.tail _ (List.Mem.head _)) rfl) rfl ?_
      refine k_val (v := .pointer (some ⟨b2, 2, none⟩)) rfl rfl rfl (pSub (pCons Sel.hc (pCons Sel.hc (pCons Sel.hc (pApp Sel.ha pNil))))) (stepV_ok tt_ok rfl) rfl ?_
      replace h := bsome h; obtain ⟨v40, x40, h⟩ := h
      refine k_cq rfl rfl rfl Tryd.call54 rfl rfl rfl (q_pf (k_step_steer x40) (fun _ _ => trivial)) rfl (pSub (pCons Sel.hc (pCons Sel.hc (pCons Sel.hc (pApp Sel.ha pNil))))) ?_
      refine k_chg rfl rfl rfl (Chg.of_val (v := .pointer (some ⟨b2, 9, none⟩)) (val_ia (j := 1) tt_ok rfl rfl rfl rfl (by simpa using hx351) rfl rfl)) rfl (.inl rfl) ?_
      rintro _ _ ⟨rfl, rfl⟩
      refine k_chg0 rfl rfl rfl (chg_store tt_ok rfl Upd.here rfl rfl rfl rfl rfl rfl) (.inl rfl) ?_
      rintro _ _ rfl
      refine k_end (by kernel_rfl) ?_
      refine wx_block (wx_then (wc_region ?_))
      refine wl_pure (v := .int .i64 (IntKind.wrap .i64 (j17_29 + (1 : Int)))) tt_ok rfl rfl ?_
      refine wl_pure tt_ok rfl rfl ?_
      refine wl_nil ?_
      exact wx_round m17 (Nat.lt_succ_self m17) ⟨(IntKind.wrap .i64 (j17_29 + (1 : Int))), (j17_n2_f2.1, v40), h, rfl, rfl⟩ (agree_cons rfl (agree_cons rfl (agree_cons rfl (agree_cons rfl agree_nil)))) (pSub (pCons Sel.hc (pCons Sel.hc (pCons Sel.hc (pApp Sel.ha pNil)))))
    replace h := cf hx351 h
    cases h
  replace h := cf hc h
  refine wc_exit (wx_then_exit ?_)
  simp only [Option.some.injEq] at h
  obtain rfl := h
  have h := hl17; clear hl17; try dsimp only [orE_l, orE_r] at h
  refine wx_then_exit (wx_block_exit (wx_then (wc_seq (wc_seq (wc_region ?_)))))
  refine wl_pure tt_ok rfl rfl ?_
  refine wl_nil (wx_then (wc_block ?_))
  replace h := bsome h; obtain ⟨⟨l34_n2_f2, l34_n2_f3⟩, h, hl34⟩ := h; try dsimp only at hl34
  refine wc_loop (fun m E L => ∃ (j34_44 : Int) (j34_n2_f2 : (T_api_Player × T_api_Player)) (j34_n2_f3 : (List T_api_Shot)) (j34_n2_f3a0 : Option Addr) (j34_n2_f3n0 : Nat) (j34_n2_f3c0 : Nat) (j34_n2_f3B0 : List Blk), m_step_Step_L33 F p1 m j34_44 j34_n2_f2 j34_n2_f3 = some (l34_n2_f2, l34_n2_f3) ∧ j34_n2_f3n0 = j34_n2_f3.length ∧ Own 80 6 j34_n2_f3a0 j34_n2_f3n0 j34_n2_f3c0 (flat c_T_api_Shot j34_n2_f3) j34_n2_f3B0 ∧ E = [(2, .pointer (some ⟨b2, 0, none⟩)), (3, .pointer (some ⟨b3, 0, none⟩)), (4, .pointer (some ⟨b4, 0, none⟩)), (44, .int .i64 j34_44)] ∧ L = (⟨b2, [.int .u64 v12.Frame, .int .u64 v12.Seed, .int .i32 j34_n2_f2.1.X, .int .i32 j34_n2_f2.1.Y, .int .i32 j34_n2_f2.1.VX, .int .i32 j34_n2_f2.1.VY, .int .u8 j34_n2_f2.1.Health, .int .u8 j34_n2_f2.1.Cool, .int .u8 j34_n2_f2.1.Face, .int .i32 j34_n2_f2.2.X, .int .i32 j34_n2_f2.2.Y, .int .i32 j34_n2_f2.2.VX, .int .i32 j34_n2_f2.2.VY, .int .u8 j34_n2_f2.2.Health, .int .u8 j34_n2_f2.2.Cool, .int .u8 j34_n2_f2.2.Face, .slice j34_n2_f3a0 j34_n2_f3n0 j34_n2_f3c0, .int .u16 v12.Score.1, .int .u16 v12.Score.2], 36, (0, 0)⟩ :: (⟨b3, [.int .u8 p1.1, .int .u8 p1.2], 45, (0, 0)⟩ :: (⟨b4, [.int .u64 (0 : Int), .int .u64 (0 : Int), .int .i32 (0 : Int), .int .i32 (0 : Int), .int .i32 (0 : Int), .int .i32 (0 : Int), .int .u8 (0 : Int), .int .u8 (0 : Int), .int .u8 (0 : Int), .int .i32 (0 : Int), .int .i32 (0 : Int), .int .i32 (0 : Int), .int .i32 (0 : Int), .int .u8 (0 : Int), .int .u8 (0 : Int), .int .u8 (0 : Int), .slice none 0 0, .int .u16 (0 : Int), .int .u16 (0 : Int)], 36, (0, 0)⟩ :: (j34_n2_f3B0 ++ []))))) F ⟨(0 : Int), j17_n2_f2, v12.Shots, v12a0, v12n0, v12c0, v12B0, h, v12N0, v12V0, rfl, rfl⟩ (agree_cons rfl (agree_cons rfl (agree_cons rfl (agree_cons rfl agree_nil)))) (pSub (pCons Sel.hc (pCons Sel.hc (pCons Sel.hc (pApp Sel.ha pNil))))) ?_
  clear h
  rintro m34 _ _ ⟨j34_44, j34_n2_f2, j34_n2_f3, j34_n2_f3a0, j34_n2_f3n0, j34_n2_f3c0, j34_n2_f3B0, h, j34_n2_f3N0, j34_n2_f3V0, rfl, rfl⟩
  rcases m34 with _ | m34
  · rw [m_step_Step_L33.eq_1] at h; cases h
  rw [m_step_Step_L33.eq_2] at h
  refine wc_seq (wc_region ?_)
  refine wl_pure (v := .bool (decide (j34_44 < (2 : Int)))) tt_ok rfl rfl ?_
  refine wl_nil (wx_then (wc_seq ?_))
  refine wc_cond rfl (fun hc => ?_) (fun hc => ?_)
  · replace h := ct hc h
    refine wc_skip (wx_then (wc_seq (wc_block (wc_seq (wc_region ?_)))))
    iterate 2 refine wl_pure tt_ok rfl rfl ?_
    refine wl_nil (wx_then (wc_seq (wc_region ?_)))
    refine wl_pure tt_ok rfl rfl ?_
    refine wl_pure (v := .pointer (some ⟨b2, 2, none⟩)) tt_ok rfl rfl ?_
    rcases Bool.eq_false_or_eq_true (j34_44 == (0 : Int)) with hx490 | hx490
    · replace h := ct hx490 h
      refine wl_val (v := .pointer (some ⟨b2, 2, none⟩)) (val_ia (j := 0) tt_ok rfl rfl rfl rfl (by simpa using hx490) rfl rfl) rfl ?_
      refine wl_pure tt_ok rfl rfl ?_
      refine wl_nil (wx_then (wc_seq (wc_region ?_)))
      refine wl_pure tt_ok rfl rfl ?_
      refine wl_val (v := .pointer (some ⟨b3, 0, none⟩)) (val_ia (j := 0) tt_ok rfl rfl rfl rfl (by simpa using hx490) rfl rfl) rfl ?_
      refine wl_val (v := .int .u8 p1.1) (val_load tt_ok rfl (List.Mem.tail _ (List.Mem.head _)) rfl) rfl ?_
      replace h := bsome h; obtain ⟨v53, x53, h⟩ := h
      refine wl_cq Tryd.call55 rfl rfl rfl (q_pf (k_input_Fire x53) (fun _ _ => trivial)) rfl ?_
      refine wl_pure tt_ok rfl rfl ?_
      replace h := bsome h; obtain ⟨v60, h, hg60⟩ := h
      refine wl_split (t := 54) rfl (fun hc => ?_) (fun hc => ?_)
      · replace h := ct hc h
        refine wl_run rfl ?_
        refine wl_pure tt_ok rfl rfl ?_
        refine wl_run rfl ?_
        refine wl_pure tt_ok rfl rfl ?_
        refine wl_run rfl ?_
        refine wl_pure (v := .pointer (some ⟨b2, 7, none⟩)) tt_ok rfl rfl ?_
        refine wl_run rfl ?_
        refine wl_val (v := .int .u8 j34_n2_f2.1.Cool) (val_load tt_ok rfl (List.Mem.head _) rfl) rfl ?_
        refine wl_run rfl ?_
        refine wl_pure (v := .bool (j34_n2_f2.1.Cool == (0 : Int))) tt_ok rfl rfl ?_
        simp only [Option.some.injEq, Prod.mk.injEq] at h
        obtain rfl := h
        have h := hg60; clear hg60
        refine wl_pure (v := .bool (j34_n2_f2.1.Cool == (0 : Int))) tt_ok rfl rfl ?_
        refine wl_pure tt_ok rfl rfl ?_
        replace h := bsome h; obtain ⟨v66, h, hg66⟩ := h
        refine wl_split (t := 61) rfl (fun hc => ?_) (fun hc => ?_)
        · replace h := ct hc h
          refine wl_run rfl ?_
          refine wl_pure (v := .pointer (some ⟨b2, 16, none⟩)) tt_ok rfl rfl ?_
          refine wl_run rfl ?_
          refine wl_val (v := .slice j34_n2_f3a0 j34_n2_f3n0 j34_n2_f3c0) (val_load tt_ok rfl (List.Mem.head _) rfl) rfl ?_
          refine wl_run rfl ?_
          refine wl_val (v := .int .i64 (j34_n2_f3.length : Int)) (val_len tt_ok rfl rfl j34_n2_f3N0) rfl ?_
          refine wl_run rfl ?_
          refine wl_pure (v := .bool (decide ((j34_n2_f3.length : Int) < (8 : Int)))) tt_ok rfl rfl ?_
          simp only [Option.some.injEq, Prod.mk.injEq] at h
          obtain rfl := h
          have h := hg66; clear hg66
          refine wl_pure (v := .bool (decide ((j34_n2_f3.length : Int) < (8 : Int)))) tt_ok rfl rfl ?_
          refine wl_nil (wx_then ?_)
          refine wc_cond rfl (fun hc => ?_) (fun hc => ?_)
          · replace h := ct hc h
            refine wc_seq ?_
            refine wc_k2 (Ls := (⟨b2, [.int .u64 v12.Frame, .int .u64 v12.Seed, .int .i32 j34_n2_f2.1.X, .int .i32 j34_n2_f2.1.Y, .int .i32 j34_n2_f2.1.VX, .int .i32 j34_n2_f2.1.VY, .int .u8 j34_n2_f2.1.Health, .int .u8 j34_n2_f2.1.Cool, .int .u8 j34_n2_f2.1.Face, .int .i32 j34_n2_f2.2.X, .int .i32 j34_n2_f2.2.Y, .int .i32 j34_n2_f2.2.VX, .int .i32 j34_n2_f2.2.VY, .int .u8 j34_n2_f2.2.Health, .int .u8 j34_n2_f2.2.Cool, .int .u8 j34_n2_f2.2.Face, .slice j34_n2_f3a0 j34_n2_f3n0 j34_n2_f3c0, .int .u16 v12.Score.1, .int .u16 v12.Score.2], 36, (0, 0)⟩ :: (⟨b3, [.int .u8 p1.1, .int .u8 p1.2], 45, (0, 0)⟩ :: (⟨b4, [.int .u64 (0 : Int), .int .u64 (0 : Int), .int .i32 (0 : Int), .int .i32 (0 : Int), .int .i32 (0 : Int), .int .i32 (0 : Int), .int .u8 (0 : Int), .int .u8 (0 : Int), .int .u8 (0 : Int), .int .i32 (0 : Int), .int .i32 (0 : Int), .int .i32 (0 : Int), .int .i32 (0 : Int), .int .u8 (0 : Int), .int .u8 (0 : Int), .int .u8 (0 : Int), .slice none 0 0, .int .u16 (0 : Int), .int .u16 (0 : Int)], 36, (0, 0)⟩ :: (j34_n2_f3B0 ++ []))))) [7, 8, 9, 10, 11] [9, 10, 11] [0, 1, 0, 4, 12, 0, 32, 124, 252, 511, 1023, 2047] [0, 1, 2, 3, 4, 5, 6, 7, 8, 9, 10, 11] (by kernel_rfl) (by kernel_rfl) (by kernel_rfl) ?_
            refine k_val (v := .pointer (some ⟨b2, 16, none⟩)) rfl rfl rfl (pSub (pCons Sel.hc (pCons Sel.hc (pCons Sel.hc (pApp Sel.ha pNil))))) (stepV_ok tt_ok rfl) rfl ?_
            refine k_val (v := .slice j34_n2_f3a0 j34_n2_f3n0 j34_n2_f3c0) rfl rfl rfl (pSub (pCons Sel.hc (pCons Sel.hc (pCons Sel.hc (pApp Sel.ha pNil))))) (val_load tt_ok rfl (List.Mem.head _) rfl) rfl ?_
            refine k_val rfl rfl rfl (pSub (pCons Sel.hc (pCons Sel.hc (pCons Sel.hc (pApp Sel.ha pNil))))) (stepV_ok tt_ok rfl) rfl ?_
            refine k_val rfl rfl rfl (pSub (pCons Sel.hc (pCons Sel.hc (pCons Sel.hc (pApp Sel.ha pNil))))) (stepV_ok tt_ok rfl) rfl ?_
            refine k_val (v := .agg #[.int .i32 j34_n2_f2.1.X, .int .i32 j34_n2_f2.1.Y, .int .i32 j34_n2_f2.1.VX, .int .i32 j34_n2_f2.1.VY, .int .u8 j34_n2_f2.1.Health, .int .u8 j34_n2_f2.1.Cool, .int .u8 j34_n2_f2.1.Face]) rfl rfl rfl (pSub (pCons Sel.hc (pCons Sel.hc (pCons Sel.hc (pApp Sel.ha pNil))))) (val_load tt_ok rfl (List.Mem.head _) rfl) rfl ?_
            refine k_val rfl rfl rfl (pSub (pCons Sel.hc (pCons Sel.hc (pCons Sel.hc (pApp Sel.ha pNil))))) (stepV_ok tt_ok rfl) rfl ?_
            refine k_val (v := .int .u8 (IntKind.wrap .u8 j34_44)) rfl rfl rfl (pSub (pCons Sel.hc (pCons Sel.hc (pCons Sel.hc (pApp Sel.ha pNil))))) (stepV_ok tt_ok rfl) rfl ?_
            replace h := bsome h; obtain ⟨v74, x74, h⟩ := h
            refine k_cq rfl rfl rfl Tryd.call56 rfl rfl rfl (q_pf (k_step_shoot x74) (fun _ _ => trivial)) rfl (pSub (pCons Sel.hc (pCons Sel.hc (pCons Sel.hc (pApp Sel.ha pNil))))) ?_
            refine k_chg rfl rfl rfl (chg_bsv (enc := c_T_api_Shot) (xs := ([v74] : List T_api_Shot)) tt_ok rfl rfl rfl rfl rfl rfl rfl rfl c_T_api_Shot_len) rfl (.inr (by rintro _ _ ⟨_, _, _, _, rfl, _, _, rfl⟩; exact ⟨_, (pCons (Sel.sa Sel.hc) (pCons (Sel.sa Sel.hc) (pCons (Sel.sa Sel.hc) (pApp (Sel.sa Sel.ha) pNil))))⟩)) ?_
            rintro _ _ ⟨a75, n75_, c75, B75, rfl, N75, V75, rfl⟩
            replace h := bsome h; obtain ⟨v76, x76, h⟩ := h
            refine k_chg rfl rfl rfl (chg_app (enc := c_T_api_Shot) (ys := ([v74] : List T_api_Shot)) tt_ok rfl rfl rfl rfl rfl rfl j34_n2_f3N0 N75 j34_n2_f3V0 (Sel.sa (Sel.sc (Sel.sc (Sel.sc Sel.ha)))) (Rds.of_vec V75) ⟨_, Sel.ha⟩ c_T_api_Shot_len (fun _ => rfl) rfl x76) rfl (.inl rfl) ?_
            rintro _ _ ⟨a76, n76_, c76, B76, rfl, N76, V76, rfl⟩
            refine k_chg rfl rfl rfl (Chg.of_val (v := .pointer (some ⟨b2, 16, none⟩)) (stepV_ok tt_ok rfl)) rfl (.inl rfl) ?_
            rintro _ _ ⟨rfl, rfl⟩
            refine k_chg0 rfl rfl rfl (chg_store tt_ok rfl (Upd.right (Upd.right Upd.here)) rfl rfl rfl rfl rfl rfl) (.inl rfl) ?_
            rintro _ _ rfl
            refine k_end (by kernel_rfl) ?_
            refine wx_then (wc_region ?_)
            iterate 2 refine wl_pure tt_ok rfl rfl ?_
            refine wl_pure (v := .pointer (some ⟨b2, 7, none⟩)) tt_ok rfl rfl ?_
            apply wl_store tt_ok; rfl; exact (Upd.right (Upd.right Upd.here)); rfl; rfl; rfl; rfl; rfl; rfl
            refine wl_nil (wx_block (wx_then (wc_region ?_)))
            refine wl_pure (v := .int .i64 (IntKind.wrap .i64 (j34_44 + (1 : Int)))) tt_ok rfl rfl ?_
            refine wl_pure tt_ok rfl rfl ?_
            refine wl_nil ?_
            exact wx_round m34 (Nat.lt_succ_self m34) ⟨(IntKind.wrap .i64 (j34_44 + (1 : Int))), ((T_api_Player.mk j34_n2_f2.1.X j34_n2_f2.1.Y j34_n2_f2.1.VX j34_n2_f2.1.VY j34_n2_f2.1.Health (10 : Int) j34_n2_f2.1.Face), j34_n2_f2.2), v76, a76, n76_, c76, B76, h, N76, V76, rfl, rfl⟩ (agree_cons rfl (agree_cons rfl (agree_cons rfl (agree_cons rfl agree_nil)))) (pSub (pCons (Sel.sa (Sel.sa Sel.hc)) (pCons (Sel.sa (Sel.sa Sel.hc)) (pCons (Sel.sa (Sel.sa Sel.hc)) (pApp Sel.ha pNil)))))
          replace h := cf hc h
          refine wc_skip (wx_block (wx_then (wc_region ?_)))
          refine wl_pure (v := .int .i64 (IntKind.wrap .i64 (j34_44 + (1 : Int)))) tt_ok rfl rfl ?_
          refine wl_pure tt_ok rfl rfl ?_
          refine wl_nil ?_
          exact wx_round m34 (Nat.lt_succ_self m34) ⟨(IntKind.wrap .i64 (j34_44 + (1 : Int))), j34_n2_f2, j34_n2_f3, j34_n2_f3a0, j34_n2_f3n0, j34_n2_f3c0, j34_n2_f3B0, h, j34_n2_f3N0, j34_n2_f3V0, rfl, rfl⟩ (agree_cons rfl (agree_cons rfl (agree_cons rfl (agree_cons rfl agree_nil)))) (pSub (pCons Sel.hc (pCons Sel.hc (pCons Sel.hc (pApp Sel.ha pNil)))))
        replace h := cf hc h
        refine wl_skip rfl rfl ?_
        refine wl_skip rfl rfl ?_
        refine wl_skip rfl rfl ?_
        refine wl_skip rfl rfl ?_
        simp only [Option.some.injEq, Prod.mk.injEq] at h
        obtain rfl := h
        have h := hg66; clear hg66
        refine wl_pure (v := .bool false) tt_ok rfl rfl ?_
        refine wl_nil (wx_then ?_)
        replace h := cf rfl h
        refine wc_cond_false rfl ?_
        refine wc_skip (wx_block (wx_then (wc_region ?_)))
        refine wl_pure (v := .int .i64 (IntKind.wrap .i64 (j34_44 + (1 : Int)))) tt_ok rfl rfl ?_
        refine wl_pure tt_ok rfl rfl ?_
        refine wl_nil ?_
        exact wx_round m34 (Nat.lt_succ_self m34) ⟨(IntKind.wrap .i64 (j34_44 + (1 : Int))), j34_n2_f2, j34_n2_f3, j34_n2_f3a0, j34_n2_f3n0, j34_n2_f3c0, j34_n2_f3B0, h, j34_n2_f3N0, j34_n2_f3V0, rfl, rfl⟩ (agree_cons rfl (agree_cons rfl (agree_cons rfl (agree_cons rfl agree_nil)))) (pSub (pCons Sel.hc (pCons Sel.hc (pCons Sel.hc (pApp Sel.ha pNil)))))
      replace h := cf hc h
      refine wl_skip rfl rfl ?_
      refine wl_skip rfl rfl ?_
      refine wl_skip rfl rfl ?_
      refine wl_skip rfl rfl ?_
      refine wl_skip rfl rfl ?_
      simp only [Option.some.injEq, Prod.mk.injEq] at h
      obtain rfl := h
      have h := hg60; clear hg60
      refine wl_pure (v := .bool false) tt_ok rfl rfl ?_
      refine wl_pure tt_ok rfl rfl ?_
      replace h := bsome h; obtain ⟨v66, h, hg66⟩ := h
      replace h := cf rfl h
      refine wl_skip rfl rfl ?_
      refine wl_skip rfl rfl ?_
      refine wl_skip rfl rfl ?_
      refine wl_skip rfl rfl ?_
      simp only [Option.some.injEq, Prod.mk.injEq] at h
      obtain rfl := h
      have h := hg66; clear hg66
      refine wl_pure (v := .bool false) tt_ok rfl rfl ?_
      refine wl_nil (wx_then ?_)
      replace h := cf rfl h
      refine wc_cond_false rfl ?_
      refine wc_skip (wx_block (wx_then (wc_region ?_)))
      refine wl_pure (v := .int .i64 (IntKind.wrap .i64 (j34_44 + (1 : Int)))) tt_ok rfl rfl ?_
      refine wl_pure tt_ok rfl rfl ?_
      refine wl_nil ?_
      exact wx_round m34 (Nat.lt_succ_self m34) ⟨(IntKind.wrap .i64 (j34_44 + (1 : Int))), j34_n2_f2, j34_n2_f3, j34_n2_f3a0, j34_n2_f3n0, j34_n2_f3c0, j34_n2_f3B0, h, j34_n2_f3N0, j34_n2_f3V0, rfl, rfl⟩ (agree_cons rfl (agree_cons rfl (agree_cons rfl (agree_cons rfl agree_nil)))) (pSub (pCons Sel.hc (pCons Sel.hc (pCons Sel.hc (pApp Sel.ha pNil)))))
    replace h := cf hx490 h
    rcases Bool.eq_false_or_eq_true (j34_44 == (1 : Int)) with hx491 | hx491
    · replace h := ct hx491 h
      refine wl_val (v := .pointer (some ⟨b2, 9, none⟩)) (val_ia (j := 1) tt_ok rfl rfl rfl rfl (by simpa using hx491) rfl rfl) rfl ?_
      refine wl_pure tt_ok rfl rfl ?_
      refine wl_nil (wx_then (wc_seq (wc_region ?_)))
      refine wl_pure tt_ok rfl rfl ?_
      refine wl_val (v := .pointer (some ⟨b3, 1, none⟩)) (val_ia (j := 1) tt_ok rfl rfl rfl rfl (by simpa using hx491) rfl rfl) rfl ?_
      refine wl_val (v := .int .u8 p1.2) (val_load tt_ok rfl (List.Mem.tail _ (List.Mem.head _)) rfl) rfl ?_
      replace h := bsome h; obtain ⟨v53, x53, h⟩ := h
      refine wl_cq Tryd.call55 rfl rfl rfl (q_pf (k_input_Fire x53) (fun _ _ => trivial)) rfl ?_
      refine wl_pure tt_ok rfl rfl ?_
      replace h := bsome h; obtain ⟨v60, h, hg60⟩ := h
      refine wl_split (t := 54) rfl (fun hc => ?_) (fun hc => ?_)
      · replace h := ct hc h
        refine wl_run rfl ?_
        refine wl_pure tt_ok rfl rfl ?_
        refine wl_run rfl ?_
        refine wl_pure tt_ok rfl rfl ?_
        refine wl_run rfl ?_
        refine wl_pure (v := .pointer (some ⟨b2, 14, none⟩)) tt_ok rfl rfl ?_
        refine wl_run rfl ?_
        refine wl_val (v := .int .u8 j34_n2_f2.2.Cool) (val_load tt_ok rfl (List.Mem.head _) rfl) rfl ?_
        refine wl_run rfl ?_
        refine wl_pure (v := .bool (j34_n2_f2.2.Cool == (0 : Int))) tt_ok rfl rfl ?_
        simp only [Option.some.injEq, Prod.mk.injEq] at h
        obtain rfl := h
        have h := hg60; clear hg60
        refine wl_pure (v := .bool (j34_n2_f2.2.Cool == (0 : Int))) tt_ok rfl rfl ?_
        refine wl_pure tt_ok rfl rfl ?_
        replace h := bsome h; obtain ⟨v66, h, hg66⟩ := h
        refine wl_split (t := 61) rfl (fun hc => ?_) (fun hc => ?_)
        · replace h := ct hc h
          refine wl_run rfl ?_
          refine wl_pure (v := .pointer (some ⟨b2, 16, none⟩)) tt_ok rfl rfl ?_
          refine wl_run rfl ?_
          refine wl_val (v := .slice j34_n2_f3a0 j34_n2_f3n0 j34_n2_f3c0) (val_load tt_ok rfl (List.Mem.head _) rfl) rfl ?_
          refine wl_run rfl ?_
          refine wl_val (v := .int .i64 (j34_n2_f3.length : Int)) (val_len tt_ok rfl rfl j34_n2_f3N0) rfl ?_
          refine wl_run rfl ?_
          refine wl_pure (v := .bool (decide ((j34_n2_f3.length : Int) < (8 : Int)))) tt_ok rfl rfl ?_
          simp only [Option.some.injEq, Prod.mk.injEq] at h
          obtain rfl := h
          have h := hg66; clear hg66
          refine wl_pure (v := .bool (decide ((j34_n2_f3.length : Int) < (8 : Int)))) tt_ok rfl rfl ?_
          refine wl_nil (wx_then ?_)
          refine wc_cond rfl (fun hc => ?_) (fun hc => ?_)
          · replace h := ct hc h
            refine wc_seq ?_
            refine wc_k2 (Ls := (⟨b2, [.int .u64 v12.Frame, .int .u64 v12.Seed, .int .i32 j34_n2_f2.1.X, .int .i32 j34_n2_f2.1.Y, .int .i32 j34_n2_f2.1.VX, .int .i32 j34_n2_f2.1.VY, .int .u8 j34_n2_f2.1.Health, .int .u8 j34_n2_f2.1.Cool, .int .u8 j34_n2_f2.1.Face, .int .i32 j34_n2_f2.2.X, .int .i32 j34_n2_f2.2.Y, .int .i32 j34_n2_f2.2.VX, .int .i32 j34_n2_f2.2.VY, .int .u8 j34_n2_f2.2.Health, .int .u8 j34_n2_f2.2.Cool, .int .u8 j34_n2_f2.2.Face, .slice j34_n2_f3a0 j34_n2_f3n0 j34_n2_f3c0, .int .u16 v12.Score.1, .int .u16 v12.Score.2], 36, (0, 0)⟩ :: (⟨b3, [.int .u8 p1.1, .int .u8 p1.2], 45, (0, 0)⟩ :: (⟨b4, [.int .u64 (0 : Int), .int .u64 (0 : Int), .int .i32 (0 : Int), .int .i32 (0 : Int), .int .i32 (0 : Int), .int .i32 (0 : Int), .int .u8 (0 : Int), .int .u8 (0 : Int), .int .u8 (0 : Int), .int .i32 (0 : Int), .int .i32 (0 : Int), .int .i32 (0 : Int), .int .i32 (0 : Int), .int .u8 (0 : Int), .int .u8 (0 : Int), .int .u8 (0 : Int), .slice none 0 0, .int .u16 (0 : Int), .int .u16 (0 : Int)], 36, (0, 0)⟩ :: (j34_n2_f3B0 ++ []))))) [7, 8, 9, 10, 11] [9, 10, 11] [0, 1, 0, 4, 12, 0, 32, 124, 252, 511, 1023, 2047] [0, 1, 2, 3, 4, 5, 6, 7, 8, 9, 10, 11] (by kernel_rfl) (by kernel_rfl) (by kernel_rfl) ?_
            refine k_val (v := .pointer (some ⟨b2, 16, none⟩)) rfl rfl rfl (pSub (pCons Sel.hc (pCons Sel.hc (pCons Sel.hc (pApp Sel.ha pNil))))) (stepV_ok tt_ok rfl) rfl ?_
            refine k_val (v := .slice j34_n2_f3a0 j34_n2_f3n0 j34_n2_f3c0) rfl rfl rfl (pSub (pCons Sel.hc (pCons Sel.hc (pCons Sel.hc (pApp Sel.ha pNil))))) (val_load tt_ok rfl (List.Mem.head _) rfl) rfl ?_
            refine k_val rfl rfl rfl (pSub (pCons Sel.hc (pCons Sel.hc (pCons Sel.hc (pApp Sel.ha pNil))))) (stepV_ok tt_ok rfl) rfl ?_
            refine k_val rfl rfl rfl (pSub (pCons Sel.hc (pCons Sel.hc (pCons Sel.hc (pApp Sel.ha pNil))))) (stepV_ok tt_ok rfl) rfl ?_
            refine k_val (v := .agg #[.int .i32 j34_n2_f2.2.X, .int .i32 j34_n2_f2.2.Y, .int .i32 j34_n2_f2.2.VX, .int .i32 j34_n2_f2.2.VY, .int .u8 j34_n2_f2.2.Health, .int .u8 j34_n2_f2.2.Cool, .int .u8 j34_n2_f2.2.Face]) rfl rfl rfl (pSub (pCons Sel.hc (pCons Sel.hc (pCons Sel.hc (pApp Sel.ha pNil))))) (val_load tt_ok rfl (List.Mem.head _) rfl) rfl ?_
            refine k_val rfl rfl rfl (pSub (pCons Sel.hc (pCons Sel.hc (pCons Sel.hc (pApp Sel.ha pNil))))) (stepV_ok tt_ok rfl) rfl ?_
            refine k_val (v := .int .u8 (IntKind.wrap .u8 j34_44)) rfl rfl rfl (pSub (pCons Sel.hc (pCons Sel.hc (pCons Sel.hc (pApp Sel.ha pNil))))) (stepV_ok tt_ok rfl) rfl ?_
            replace h := bsome h; obtain ⟨v74, x74, h⟩ := h
            refine k_cq rfl rfl rfl Tryd.call56 rfl rfl rfl (q_pf (k_step_shoot x74) (fun _ _ => trivial)) rfl (pSub (pCons Sel.hc (pCons Sel.hc (pCons Sel.hc (pApp Sel.ha pNil))))) ?_
            refine k_chg rfl rfl rfl (chg_bsv (enc := c_T_api_Shot) (xs := ([v74] : List T_api_Shot)) tt_ok rfl rfl rfl rfl rfl rfl rfl rfl c_T_api_Shot_len) rfl (.inr (by rintro _ _ ⟨_, _, _, _, rfl, _, _, rfl⟩; exact ⟨_, (pCons (Sel.sa Sel.hc) (pCons (Sel.sa Sel.hc) (pCons (Sel.sa Sel.hc) (pApp (Sel.sa Sel.ha) pNil))))⟩)) ?_
            rintro _ _ ⟨a75, n75_, c75, B75, rfl, N75, V75, rfl⟩
            replace h := bsome h; obtain ⟨v76, x76, h⟩ := h
            refine k_chg rfl rfl rfl (chg_app (enc := c_T_api_Shot) (ys := ([v74] : List T_api_Shot)) tt_ok rfl rfl rfl rfl rfl rfl j34_n2_f3N0 N75 j34_n2_f3V0 (Sel.sa (Sel.sc (Sel.sc (Sel.sc Sel.ha)))) (Rds.of_vec V75) ⟨_, Sel.ha⟩ c_T_api_Shot_len (fun _ => rfl) rfl x76) rfl (.inl rfl) ?_
            rintro _ _ ⟨a76, n76_, c76, B76, rfl, N76, V76, rfl⟩
            refine k_chg rfl rfl rfl (Chg.of_val (v := .pointer (some ⟨b2, 16, none⟩)) (stepV_ok tt_ok rfl)) rfl (.inl rfl) ?_
            rintro _ _ ⟨rfl, rfl⟩
            refine k_chg0 rfl rfl rfl (chg_store tt_ok rfl (Upd.right (Upd.right Upd.here)) rfl rfl rfl rfl rfl rfl) (.inl rfl) ?_
            rintro _ _ rfl
            refine k_end (by kernel_rfl) ?_
            refine wx_then (wc_region ?_)
            iterate 2 refine wl_pure tt_ok rfl rfl ?_
            refine wl_pure (v := .pointer (some ⟨b2, 14, none⟩)) tt_ok rfl rfl ?_
            apply wl_store tt_ok; rfl; exact (Upd.right (Upd.right Upd.here)); rfl; rfl; rfl; rfl; rfl; rfl
            refine wl_nil (wx_block (wx_then (wc_region ?_)))
            refine wl_pure (v := .int .i64 (IntKind.wrap .i64 (j34_44 + (1 : Int)))) tt_ok rfl rfl ?_
            refine wl_pure tt_ok rfl rfl ?_
            refine wl_nil ?_
            exact wx_round m34 (Nat.lt_succ_self m34) ⟨(IntKind.wrap .i64 (j34_44 + (1 : Int))), (j34_n2_f2.1, (T_api_Player.mk j34_n2_f2.2.X j34_n2_f2.2.Y j34_n2_f2.2.VX j34_n2_f2.2.VY j34_n2_f2.2.Health (10 : Int) j34_n2_f2.2.Face)), v76, a76, n76_, c76, B76, h, N76, V76, rfl, rfl⟩ (agree_cons rfl (agree_cons rfl (agree_cons rfl (agree_cons rfl agree_nil)))) (pSub (pCons (Sel.sa (Sel.sa Sel.hc)) (pCons (Sel.sa (Sel.sa Sel.hc)) (pCons (Sel.sa (Sel.sa Sel.hc)) (pApp Sel.ha pNil)))))
          replace h := cf hc h
          refine wc_skip (wx_block (wx_then (wc_region ?_)))
          refine wl_pure (v := .int .i64 (IntKind.wrap .i64 (j34_44 + (1 : Int)))) tt_ok rfl rfl ?_
          refine wl_pure tt_ok rfl rfl ?_
          refine wl_nil ?_
          exact wx_round m34 (Nat.lt_succ_self m34) ⟨(IntKind.wrap .i64 (j34_44 + (1 : Int))), j34_n2_f2, j34_n2_f3, j34_n2_f3a0, j34_n2_f3n0, j34_n2_f3c0, j34_n2_f3B0, h, j34_n2_f3N0, j34_n2_f3V0, rfl, rfl⟩ (agree_cons rfl (agree_cons rfl (agree_cons rfl (agree_cons rfl agree_nil)))) (pSub (pCons Sel.hc (pCons Sel.hc (pCons Sel.hc (pApp Sel.ha pNil)))))
        replace h := cf hc h
        refine wl_skip rfl rfl ?_
        refine wl_skip rfl rfl ?_
        refine wl_skip rfl rfl ?_
        refine wl_skip rfl rfl ?_
        simp only [Option.some.injEq, Prod.mk.injEq] at h
        obtain rfl := h
        have h := hg66; clear hg66
        refine wl_pure (v := .bool false) tt_ok rfl rfl ?_
        refine wl_nil (wx_then ?_)
        replace h := cf rfl h
        refine wc_cond_false rfl ?_
        refine wc_skip (wx_block (wx_then (wc_region ?_)))
        refine wl_pure (v := .int .i64 (IntKind.wrap .i64 (j34_44 + (1 : Int)))) tt_ok rfl rfl ?_
        refine wl_pure tt_ok rfl rfl ?_
        refine wl_nil ?_
        exact wx_round m34 (Nat.lt_succ_self m34) ⟨(IntKind.wrap .i64 (j34_44 + (1 : Int))), j34_n2_f2, j34_n2_f3, j34_n2_f3a0, j34_n2_f3n0, j34_n2_f3c0, j34_n2_f3B0, h, j34_n2_f3N0, j34_n2_f3V0, rfl, rfl⟩ (agree_cons rfl (agree_cons rfl (agree_cons rfl (agree_cons rfl agree_nil)))) (pSub (pCons Sel.hc (pCons Sel.hc (pCons Sel.hc (pApp Sel.ha pNil)))))
      replace h := cf hc h
      refine wl_skip rfl rfl ?_
      refine wl_skip rfl rfl ?_
      refine wl_skip rfl rfl ?_
      refine wl_skip rfl rfl ?_
      refine wl_skip rfl rfl ?_
      simp only [Option.some.injEq, Prod.mk.injEq] at h
      obtain rfl := h
      have h := hg60; clear hg60
      refine wl_pure (v := .bool false) tt_ok rfl rfl ?_
      refine wl_pure tt_ok rfl rfl ?_
      replace h := bsome h; obtain ⟨v66, h, hg66⟩ := h
      replace h := cf rfl h
      refine wl_skip rfl rfl ?_
      refine wl_skip rfl rfl ?_
      refine wl_skip rfl rfl ?_
      refine wl_skip rfl rfl ?_
      simp only [Option.some.injEq, Prod.mk.injEq] at h
      obtain rfl := h
      have h := hg66; clear hg66
      refine wl_pure (v := .bool false) tt_ok rfl rfl ?_
      refine wl_nil (wx_then ?_)
      replace h := cf rfl h
      refine wc_cond_false rfl ?_
      refine wc_skip (wx_block (wx_then (wc_region ?_)))
      refine wl_pure (v := .int .i64 (IntKind.wrap .i64 (j34_44 + (1 : Int)))) tt_ok rfl rfl ?_
      refine wl_pure tt_ok rfl rfl ?_
      refine wl_nil ?_
      exact wx_round m34 (Nat.lt_succ_self m34) ⟨(IntKind.wrap .i64 (j34_44 + (1 : Int))), j34_n2_f2, j34_n2_f3, j34_n2_f3a0, j34_n2_f3n0, j34_n2_f3c0, j34_n2_f3B0, h, j34_n2_f3N0, j34_n2_f3V0, rfl, rfl⟩ (agree_cons rfl (agree_cons rfl (agree_cons rfl (agree_cons rfl agree_nil)))) (pSub (pCons Sel.hc (pCons Sel.hc (pCons Sel.hc (pApp Sel.ha pNil)))))
    replace h := cf hx491 h
    cases h
  replace h := cf hc h
  refine wc_exit (wx_then_exit ?_)
  simp only [Option.some.injEq, Prod.mk.injEq] at h
  obtain ⟨rfl, rfl⟩ := h
  have h := hl34; clear hl34; try dsimp only [orE_l, orE_r] at h
  refine wx_then_exit (wx_block_exit (wx_then (wc_seq ?_)))
  replace h := bsome h; obtain ⟨v85, x85, h⟩ := h
  replace h := bsome h; obtain ⟨v89, x89, h⟩ := h
  refine wc_join2 (fun E L => ∃ (b8 : Nat) (b9 : Nat), E = [(2, .pointer (some ⟨b2, 0, none⟩)), (4, .pointer (some ⟨b4, 0, none⟩)), (8, .pointer (some ⟨b8, 0, none⟩)), (9, .pointer (some ⟨b9, 0, none⟩))] ∧ L = (⟨b2, [.int .u64 v12.Frame, .int .u64 v12.Seed, .int .i32 j34_n2_f2.1.X, .int .i32 j34_n2_f2.1.Y, .int .i32 j34_n2_f2.1.VX, .int .i32 j34_n2_f2.1.VY, .int .u8 j34_n2_f2.1.Health, .int .u8 j34_n2_f2.1.Cool, .int .u8 j34_n2_f2.1.Face, .int .i32 j34_n2_f2.2.X, .int .i32 j34_n2_f2.2.Y, .int .i32 j34_n2_f2.2.VX, .int .i32 j34_n2_f2.2.VY, .int .u8 j34_n2_f2.2.Health, .int .u8 j34_n2_f2.2.Cool, .int .u8 j34_n2_f2.2.Face, .slice j34_n2_f3a0 j34_n2_f3n0 j34_n2_f3c0, .int .u16 v12.Score.1, .int .u16 v12.Score.2], 36, (0, 0)⟩ :: (⟨b4, [.int .u64 (0 : Int), .int .u64 (0 : Int), .int .i32 (0 : Int), .int .i32 (0 : Int), .int .i32 (0 : Int), .int .i32 (0 : Int), .int .u8 (0 : Int), .int .u8 (0 : Int), .int .u8 (0 : Int), .int .i32 (0 : Int), .int .i32 (0 : Int), .int .i32 (0 : Int), .int .i32 (0 : Int), .int .u8 (0 : Int), .int .u8 (0 : Int), .int .u8 (0 : Int), .slice none 0 0, .int .u16 (0 : Int), .int .u16 (0 : Int)], 36, (0, 0)⟩ :: (⟨b8, [.int .i32 v85.X, .int .i32 v85.Y, .int .i32 v85.VX, .int .i32 v85.VY, .int .u8 v85.Health, .int .u8 v85.Cool, .int .u8 v85.Face], 30, (0, 0)⟩ :: (⟨b9, [.int .i32 v89.X, .int .i32 v89.Y, .int .i32 v89.VX, .int .i32 v89.VY, .int .u8 v89.Health, .int .u8 v89.Cool, .int .u8 v89.Face], 30, (0, 0)⟩ :: (j34_n2_f3B0 ++ [])))))) ?_ ?_
  · refine wc_k2 (Ls := (⟨b2, [.int .u64 v12.Frame, .int .u64 v12.Seed, .int .i32 j34_n2_f2.1.X, .int .i32 j34_n2_f2.1.Y, .int .i32 j34_n2_f2.1.VX, .int .i32 j34_n2_f2.1.VY, .int .u8 j34_n2_f2.1.Health, .int .u8 j34_n2_f2.1.Cool, .int .u8 j34_n2_f2.1.Face, .int .i32 j34_n2_f2.2.X, .int .i32 j34_n2_f2.2.Y, .int .i32 j34_n2_f2.2.VX, .int .i32 j34_n2_f2.2.VY, .int .u8 j34_n2_f2.2.Health, .int .u8 j34_n2_f2.2.Cool, .int .u8 j34_n2_f2.2.Face, .slice j34_n2_f3a0 j34_n2_f3n0 j34_n2_f3c0, .int .u16 v12.Score.1, .int .u16 v12.Score.2], 36, (0, 0)⟩ :: (⟨b3, [.int .u8 p1.1, .int .u8 p1.2], 45, (0, 0)⟩ :: (⟨b4, [.int .u64 (0 : Int), .int .u64 (0 : Int), .int .i32 (0 : Int), .int .i32 (0 : Int), .int .i32 (0 : Int), .int .i32 (0 : Int), .int .u8 (0 : Int), .int .u8 (0 : Int), .int .u8 (0 : Int), .int .i32 (0 : Int), .int .i32 (0 : Int), .int .i32 (0 : Int), .int .i32 (0 : Int), .int .u8 (0 : Int), .int .u8 (0 : Int), .int .u8 (0 : Int), .slice none 0 0, .int .u16 (0 : Int), .int .u16 (0 : Int)], 36, (0, 0)⟩ :: (j34_n2_f3B0 ++ []))))) [3, 7, 8, 9, 10, 11] [7, 10, 11] [0, 1, 3, 7, 0, 16, 48, 127, 0, 0, 1023, 2047] [0, 1, 2, 4, 5, 6] (by kernel_rfl) (by kernel_rfl) (by kernel_rfl) ?_
    refine k_val (v := .pointer (some ⟨b2, 2, none⟩)) rfl rfl rfl (pSub (pCons Sel.hc (pCons Sel.hc (pCons Sel.hc (pApp Sel.ha pNil))))) (stepV_ok tt_ok rfl) rfl ?_
    refine k_val (v := .pointer (some ⟨b2, 2, none⟩)) rfl rfl rfl (pSub (pCons Sel.hc (pCons Sel.hc (pCons Sel.hc (pApp Sel.ha pNil))))) (val_ia (j := 0) tt_ok rfl rfl rfl rfl rfl rfl rfl) rfl ?_
    refine k_val (v := .agg #[.int .i32 j34_n2_f2.1.X, .int .i32 j34_n2_f2.1.Y, .int .i32 j34_n2_f2.1.VX, .int .i32 j34_n2_f2.1.VY, .int .u8 j34_n2_f2.1.Health, .int .u8 j34_n2_f2.1.Cool, .int .u8 j34_n2_f2.1.Face]) rfl rfl rfl (pSub (pCons Sel.hc (pCons Sel.hc (pCons Sel.hc (pApp Sel.ha pNil))))) (val_load tt_ok rfl (List.Mem.head _) rfl) rfl ?_
    refine k_val (v := .pointer (some ⟨b2, 2, none⟩)) rfl rfl rfl (pSub (pCons Sel.hc (pCons Sel.hc (pCons Sel.hc (pApp Sel.ha pNil))))) (stepV_ok tt_ok rfl) rfl ?_
    refine k_val (v := .pointer (some ⟨b2, 9, none⟩)) rfl rfl rfl (pSub (pCons Sel.hc (pCons Sel.hc (pCons Sel.hc (pApp Sel.ha pNil))))) (val_ia (j := 1) tt_ok rfl rfl rfl rfl rfl rfl rfl) rfl ?_
    refine k_val (v := .agg #[.int .i32 j34_n2_f2.2.X, .int .i32 j34_n2_f2.2.Y, .int .i32 j34_n2_f2.2.VX, .int .i32 j34_n2_f2.2.VY, .int .u8 j34_n2_f2.2.Health, .int .u8 j34_n2_f2.2.Cool, .int .u8 j34_n2_f2.2.Face]) rfl rfl rfl (pSub (pCons Sel.hc (pCons Sel.hc (pCons Sel.hc (pApp Sel.ha pNil))))) (val_load tt_ok rfl (List.Mem.head _) rfl) rfl ?_
    refine k_three (i := 3) (j := 8) (k := 9) (t1 := []) (t2 := []) (t3 := []) (by kernel_rfl) (by kernel_rfl) (by kernel_rfl) (by kernel_rfl) (by kernel_rfl) ?_ ?_ ?_
    · refine k_cqf rfl rfl Tryd.call57 rfl rfl rfl (q_pf (k_step_moved x85) (fun _ _ => trivial)) rfl (pSub (pCons Sel.hc (pCons Sel.hc (pCons Sel.hc (pApp Sel.ha pNil))))) ?_
      refine k_three (i := 7) (j := 8) (k := 9) (t1 := []) (t2 := []) (t3 := []) (by kernel_rfl) (by kernel_rfl) (by kernel_rfl) (by kernel_rfl) (by kernel_rfl) ?_ ?_ ?_
      · refine k_cqf rfl rfl Tryd.call57 rfl rfl rfl (q_pf (k_step_moved x89) (fun _ _ => trivial)) rfl (pSub (pCons Sel.hc (pCons Sel.hc (pCons Sel.hc (pApp Sel.ha pNil))))) ?_
        refine k_two (i := 8) (j := 9) (t1 := [9, 10, 11]) (t2 := [8, 10, 11]) (by kernel_rfl) (by kernel_rfl) (by kernel_rfl) (by kernel_rfl) ?_ ?_
        · refine k_chgf rfl rfl (chg_alloc tt_ok rfl) rfl (.inr (by rintro _ _ ⟨_, rfl, rfl⟩; exact ⟨_, (pCons (Sel.sc Sel.hc) (pCons (Sel.sc Sel.hc) (pCons (Sel.sc Sel.hc) (pApp (Sel.sc Sel.ha) pNil))))⟩)) ?_
          rintro _ _ ⟨b8, rfl, rfl⟩
          refine k_chg rfl rfl rfl (chg_alloc tt_ok rfl) rfl (.inr (by rintro _ _ ⟨_, rfl, rfl⟩; exact ⟨_, (pCons (Sel.sc (Sel.sc Sel.hc)) (pCons (Sel.sc (Sel.sc Sel.hc)) (pCons (Sel.sc (Sel.sc Sel.hc)) (pApp (Sel.sc (Sel.sc Sel.ha)) pNil))))⟩)) ?_
          rintro _ _ ⟨b9, rfl, rfl⟩
          refine k_chg0 rfl rfl rfl (chg_store tt_ok rfl (Upd.there Upd.here) rfl rfl rfl rfl rfl rfl) (.inl rfl) ?_
          rintro _ _ rfl
          refine k_chg0 rfl rfl rfl (chg_store tt_ok rfl Upd.here rfl rfl rfl rfl rfl rfl) (.inl rfl) ?_
          rintro _ _ rfl
          refine k_end (by kernel_rfl) ?_
          exact wx_join ⟨b8, b9, rfl, rfl⟩ (agree_cons rfl (agree_cons rfl (agree_cons rfl (agree_cons rfl agree_nil)))) (pSub (pCons (Sel.sc (Sel.sc Sel.hc)) (pCons (Sel.sc (Sel.sc (Sel.sc Sel.hc))) (pCons (Sel.sc Sel.hc) (pCons Sel.hc (pApp (Sel.sc Sel.ha) pNil))))))
        refine k_chgf rfl rfl (chg_alloc tt_ok rfl) rfl (.inr (by rintro _ _ ⟨_, rfl, rfl⟩; exact ⟨_, (pCons (Sel.sc Sel.hc) (pCons (Sel.sc Sel.hc) (pCons (Sel.sc Sel.hc) (pApp (Sel.sc Sel.ha) pNil))))⟩)) ?_
        rintro _ _ ⟨b9, rfl, rfl⟩
        refine k_chg rfl rfl rfl (chg_alloc tt_ok rfl) rfl (.inr (by rintro _ _ ⟨_, rfl, rfl⟩; exact ⟨_, (pCons (Sel.sc (Sel.sc Sel.hc)) (pCons (Sel.sc (Sel.sc Sel.hc)) (pCons (Sel.sc (Sel.sc Sel.hc)) (pApp (Sel.sc (Sel.sc Sel.ha)) pNil))))⟩)) ?_
        rintro _ _ ⟨b8, rfl, rfl⟩
        refine k_chg0 rfl rfl rfl (chg_store tt_ok rfl Upd.here rfl rfl rfl rfl rfl rfl) (.inl rfl) ?_
        rintro _ _ rfl
        refine k_chg0 rfl rfl rfl (chg_store tt_ok rfl (Upd.there Upd.here) rfl rfl rfl rfl rfl rfl) (.inl rfl) ?_
        rintro _ _ rfl
        refine k_end (by kernel_rfl) ?_
        exact wx_join ⟨b8, b9, rfl, rfl⟩ (agree_cons rfl (agree_cons rfl (agree_cons rfl (agree_cons rfl agree_nil)))) (pSub (pCons (Sel.sc (Sel.sc Sel.hc)) (pCons (Sel.sc (Sel.sc (Sel.sc Sel.hc))) (pCons Sel.hc (pCons Sel.hc (pApp (Sel.sc Sel.ha) pNil))))))
      · refine k_chgf rfl rfl (chg_alloc tt_ok rfl) rfl (.inr (by rintro _ _ ⟨_, rfl, rfl⟩; exact ⟨_, (pCons (Sel.sc Sel.hc) (pCons (Sel.sc Sel.hc) (pCons (Sel.sc Sel.hc) (pApp (Sel.sc Sel.ha) pNil))))⟩)) ?_
        rintro _ _ ⟨b8, rfl, rfl⟩
        refine k_two (i := 7) (j := 9) (t1 := [9, 10, 11]) (t2 := [7, 10, 11]) (by kernel_rfl) (by kernel_rfl) (by kernel_rfl) (by kernel_rfl) ?_ ?_
        · refine k_cqf rfl rfl Tryd.call57 rfl rfl rfl (q_pf (k_step_moved x89) (fun _ _ => trivial)) rfl (pSub (pCons (Sel.sc Sel.hc) (pCons (Sel.sc Sel.hc) (pCons (Sel.sc Sel.hc) (pApp (Sel.sc Sel.ha) pNil))))) ?_
          refine k_chg rfl rfl rfl (chg_alloc tt_ok rfl) rfl (.inr (by rintro _ _ ⟨_, rfl, rfl⟩; exact ⟨_, (pCons (Sel.sc (Sel.sc Sel.hc)) (pCons (Sel.sc (Sel.sc Sel.hc)) (pCons (Sel.sc (Sel.sc Sel.hc)) (pApp (Sel.sc (Sel.sc Sel.ha)) pNil))))⟩)) ?_
          rintro _ _ ⟨b9, rfl, rfl⟩
          refine k_chg0 rfl rfl rfl (chg_store tt_ok rfl (Upd.there Upd.here) rfl rfl rfl rfl rfl rfl) (.inl rfl) ?_
          rintro _ _ rfl
          refine k_chg0 rfl rfl rfl (chg_store tt_ok rfl Upd.here rfl rfl rfl rfl rfl rfl) (.inl rfl) ?_
          rintro _ _ rfl
          refine k_end (by kernel_rfl) ?_
          exact wx_join ⟨b8, b9, rfl, rfl⟩ (agree_cons rfl (agree_cons rfl (agree_cons rfl (agree_cons rfl agree_nil)))) (pSub (pCons (Sel.sc (Sel.sc Sel.hc)) (pCons (Sel.sc (Sel.sc (Sel.sc Sel.hc))) (pCons (Sel.sc Sel.hc) (pCons Sel.hc (pApp (Sel.sc Sel.ha) pNil))))))
        refine k_chgf rfl rfl (chg_alloc tt_ok rfl) rfl (.inr (by rintro _ _ ⟨_, rfl, rfl⟩; exact ⟨_, (pCons (Sel.sc (Sel.sc Sel.hc)) (pCons (Sel.sc (Sel.sc Sel.hc)) (pCons (Sel.sc (Sel.sc Sel.hc)) (pApp (Sel.sc (Sel.sc Sel.ha)) pNil))))⟩)) ?_
        rintro _ _ ⟨b9, rfl, rfl⟩
        refine k_cq rfl rfl rfl Tryd.call57 rfl rfl rfl (q_pf (k_step_moved x89) (fun _ _ => trivial)) rfl (pSub (pCons (Sel.sc (Sel.sc Sel.hc)) (pCons (Sel.sc (Sel.sc Sel.hc)) (pCons (Sel.sc (Sel.sc Sel.hc)) (pApp (Sel.sc (Sel.sc Sel.ha)) pNil))))) ?_
        refine k_chg0 rfl rfl rfl (chg_store tt_ok rfl (Upd.there Upd.here) rfl rfl rfl rfl rfl rfl) (.inl rfl) ?_
        rintro _ _ rfl
        refine k_chg0 rfl rfl rfl (chg_store tt_ok rfl Upd.here rfl rfl rfl rfl rfl rfl) (.inl rfl) ?_
        rintro _ _ rfl
        refine k_end (by kernel_rfl) ?_
        exact wx_join ⟨b8, b9, rfl, rfl⟩ (agree_cons rfl (agree_cons rfl (agree_cons rfl (agree_cons rfl agree_nil)))) (pSub (pCons (Sel.sc (Sel.sc Sel.hc)) (pCons (Sel.sc (Sel.sc (Sel.sc Sel.hc))) (pCons (Sel.sc Sel.hc) (pCons Sel.hc (pApp (Sel.sc Sel.ha) pNil))))))
      refine k_chgf rfl rfl (chg_alloc tt_ok rfl) rfl (.inr (by rintro _ _ ⟨_, rfl, rfl⟩; exact ⟨_, (pCons (Sel.sc Sel.hc) (pCons (Sel.sc Sel.hc) (pCons (Sel.sc Sel.hc) (pApp (Sel.sc Sel.ha) pNil))))⟩)) ?_
      rintro _ _ ⟨b9, rfl, rfl⟩
      refine k_two (i := 7) (j := 8) (t1 := [8, 10, 11]) (t2 := [7, 10, 11]) (by kernel_rfl) (by kernel_rfl) (by kernel_rfl) (by kernel_rfl) ?_ ?_
      · refine k_cqf rfl rfl Tryd.call57 rfl rfl rfl (q_pf (k_step_moved x89) (fun _ _ => trivial)) rfl (pSub (pCons (Sel.sc Sel.hc) (pCons (Sel.sc Sel.hc) (pCons (Sel.sc Sel.hc) (pApp (Sel.sc Sel.ha) pNil))))) ?_
        refine k_chg rfl rfl rfl (chg_alloc tt_ok rfl) rfl (.inr (by rintro _ _ ⟨_, rfl, rfl⟩; exact ⟨_, (pCons (Sel.sc (Sel.sc Sel.hc)) (pCons (Sel.sc (Sel.sc Sel.hc)) (pCons (Sel.sc (Sel.sc Sel.hc)) (pApp (Sel.sc (Sel.sc Sel.ha)) pNil))))⟩)) ?_
        rintro _ _ ⟨b8, rfl, rfl⟩
        refine k_chg0 rfl rfl rfl (chg_store tt_ok rfl Upd.here rfl rfl rfl rfl rfl rfl) (.inl rfl) ?_
        rintro _ _ rfl
        refine k_chg0 rfl rfl rfl (chg_store tt_ok rfl (Upd.there Upd.here) rfl rfl rfl rfl rfl rfl) (.inl rfl) ?_
        rintro _ _ rfl
        refine k_end (by kernel_rfl) ?_
        exact wx_join ⟨b8, b9, rfl, rfl⟩ (agree_cons rfl (agree_cons rfl (agree_cons rfl (agree_cons rfl agree_nil)))) (pSub (pCons (Sel.sc (Sel.sc Sel.hc)) (pCons (Sel.sc (Sel.sc (Sel.sc Sel.hc))) (pCons Sel.hc (pCons Sel.hc (pApp (Sel.sc Sel.ha) pNil))))))
      refine k_chgf rfl rfl (chg_alloc tt_ok rfl) rfl (.inr (by rintro _ _ ⟨_, rfl, rfl⟩; exact ⟨_, (pCons (Sel.sc (Sel.sc Sel.hc)) (pCons (Sel.sc (Sel.sc Sel.hc)) (pCons (Sel.sc (Sel.sc Sel.hc)) (pApp (Sel.sc (Sel.sc Sel.ha)) pNil))))⟩)) ?_
      rintro _ _ ⟨b8, rfl, rfl⟩
      refine k_cq rfl rfl rfl Tryd.call57 rfl rfl rfl (q_pf (k_step_moved x89) (fun _ _ => trivial)) rfl (pSub (pCons (Sel.sc (Sel.sc Sel.hc)) (pCons (Sel.sc (Sel.sc Sel.hc)) (pCons (Sel.sc (Sel.sc Sel.hc)) (pApp (Sel.sc (Sel.sc Sel.ha)) pNil))))) ?_
      refine k_chg0 rfl rfl rfl (chg_store tt_ok rfl Upd.here rfl rfl rfl rfl rfl rfl) (.inl rfl) ?_
      rintro _ _ rfl
      refine k_chg0 rfl rfl rfl (chg_store tt_ok rfl (Upd.there Upd.here) rfl rfl rfl rfl rfl rfl) (.inl rfl) ?_
      rintro _ _ rfl
      refine k_end (by kernel_rfl) ?_
      exact wx_join ⟨b8, b9, rfl, rfl⟩ (agree_cons rfl (agree_cons rfl (agree_cons rfl (agree_cons rfl agree_nil)))) (pSub (pCons (Sel.sc (Sel.sc Sel.hc)) (pCons (Sel.sc (Sel.sc (Sel.sc Sel.hc))) (pCons Sel.hc (pCons Sel.hc (pApp (Sel.sc Sel.ha) pNil))))))
    · refine k_chgf rfl rfl (chg_alloc tt_ok rfl) rfl (.inr (by rintro _ _ ⟨_, rfl, rfl⟩; exact ⟨_, (pCons (Sel.sc Sel.hc) (pCons (Sel.sc Sel.hc) (pCons (Sel.sc Sel.hc) (pApp (Sel.sc Sel.ha) pNil))))⟩)) ?_
      rintro _ _ ⟨b8, rfl, rfl⟩
      refine k_two (i := 3) (j := 9) (t1 := []) (t2 := [3, 7, 10, 11]) (by kernel_rfl) (by kernel_rfl) (by kernel_rfl) (by kernel_rfl) ?_ ?_
      · refine k_cqf rfl rfl Tryd.call57 rfl rfl rfl (q_pf (k_step_moved x85) (fun _ _ => trivial)) rfl (pSub (pCons (Sel.sc Sel.hc) (pCons (Sel.sc Sel.hc) (pCons (Sel.sc Sel.hc) (pApp (Sel.sc Sel.ha) pNil))))) ?_
        refine k_two (i := 7) (j := 9) (t1 := [9, 10, 11]) (t2 := [7, 10, 11]) (by kernel_rfl) (by kernel_rfl) (by kernel_rfl) (by kernel_rfl) ?_ ?_
        · refine k_cqf rfl rfl Tryd.call57 rfl rfl rfl (q_pf (k_step_moved x89) (fun _ _ => trivial)) rfl (pSub (pCons (Sel.sc Sel.hc) (pCons (Sel.sc Sel.hc) (pCons (Sel.sc Sel.hc) (pApp (Sel.sc Sel.ha) pNil))))) ?_
          refine k_chg rfl rfl rfl (chg_alloc tt_ok rfl) rfl (.inr (by rintro _ _ ⟨_, rfl, rfl⟩; exact ⟨_, (pCons (Sel.sc (Sel.sc Sel.hc)) (pCons (Sel.sc (Sel.sc Sel.hc)) (pCons (Sel.sc (Sel.sc Sel.hc)) (pApp (Sel.sc (Sel.sc Sel.ha)) pNil))))⟩)) ?_
          rintro _ _ ⟨b9, rfl, rfl⟩
          refine k_chg0 rfl rfl rfl (chg_store tt_ok rfl (Upd.there Upd.here) rfl rfl rfl rfl rfl rfl) (.inl rfl) ?_
          rintro _ _ rfl
          refine k_chg0 rfl rfl rfl (chg_store tt_ok rfl Upd.here rfl rfl rfl rfl rfl rfl) (.inl rfl) ?_
          rintro _ _ rfl
          refine k_end (by kernel_rfl) ?_
          exact wx_join ⟨b8, b9, rfl, rfl⟩ (agree_cons rfl (agree_cons rfl (agree_cons rfl (agree_cons rfl agree_nil)))) (pSub (pCons (Sel.sc (Sel.sc Sel.hc)) (pCons (Sel.sc (Sel.sc (Sel.sc Sel.hc))) (pCons (Sel.sc Sel.hc) (pCons Sel.hc (pApp (Sel.sc Sel.ha) pNil))))))
        refine k_chgf rfl rfl (chg_alloc tt_ok rfl) rfl (.inr (by rintro _ _ ⟨_, rfl, rfl⟩; exact ⟨_, (pCons (Sel.sc (Sel.sc Sel.hc)) (pCons (Sel.sc (Sel.sc Sel.hc)) (pCons (Sel.sc (Sel.sc Sel.hc)) (pApp (Sel.sc (Sel.sc Sel.ha)) pNil))))⟩)) ?_
        rintro _ _ ⟨b9, rfl, rfl⟩
        refine k_cq rfl rfl rfl Tryd.call57 rfl rfl rfl (q_pf (k_step_moved x89) (fun _ _ => trivial)) rfl (pSub (pCons (Sel.sc (Sel.sc Sel.hc)) (pCons (Sel.sc (Sel.sc Sel.hc)) (pCons (Sel.sc (Sel.sc Sel.hc)) (pApp (Sel.sc (Sel.sc Sel.ha)) pNil))))) ?_
        refine k_chg0 rfl rfl rfl (chg_store tt_ok rfl (Upd.there Upd.here) rfl rfl rfl rfl rfl rfl) (.inl rfl) ?_
        rintro _ _ rfl
        refine k_chg0 rfl rfl rfl (chg_store tt_ok rfl Upd.here rfl rfl rfl rfl rfl rfl) (.inl rfl) ?_
        rintro _ _ rfl
        refine k_end (by kernel_rfl) ?_
        exact wx_join ⟨b8, b9, rfl, rfl⟩ (agree_cons rfl (agree_cons rfl (agree_cons rfl (agree_cons rfl agree_nil)))) (pSub (pCons (Sel.sc (Sel.sc Sel.hc)) (pCons (Sel.sc (Sel.sc (Sel.sc Sel.hc))) (pCons (Sel.sc Sel.hc) (pCons Sel.hc (pApp (Sel.sc Sel.ha) pNil))))))
      refine k_chgf rfl rfl (chg_alloc tt_ok rfl) rfl (.inr (by rintro _ _ ⟨_, rfl, rfl⟩; exact ⟨_, (pCons (Sel.sc (Sel.sc Sel.hc)) (pCons (Sel.sc (Sel.sc Sel.hc)) (pCons (Sel.sc (Sel.sc Sel.hc)) (pApp (Sel.sc (Sel.sc Sel.ha)) pNil))))⟩)) ?_
      rintro _ _ ⟨b9, rfl, rfl⟩
      refine k_cq rfl rfl rfl Tryd.call57 rfl rfl rfl (q_pf (k_step_moved x85) (fun _ _ => trivial)) rfl (pSub (pCons (Sel.sc (Sel.sc Sel.hc)) (pCons (Sel.sc (Sel.sc Sel.hc)) (pCons (Sel.sc (Sel.sc Sel.hc)) (pApp (Sel.sc (Sel.sc Sel.ha)) pNil))))) ?_
      refine k_cq rfl rfl rfl Tryd.call57 rfl rfl rfl (q_pf (k_step_moved x89) (fun _ _ => trivial)) rfl (pSub (pCons (Sel.sc (Sel.sc Sel.hc)) (pCons (Sel.sc (Sel.sc Sel.hc)) (pCons (Sel.sc (Sel.sc Sel.hc)) (pApp (Sel.sc (Sel.sc Sel.ha)) pNil))))) ?_
      refine k_chg0 rfl rfl rfl (chg_store tt_ok rfl (Upd.there Upd.here) rfl rfl rfl rfl rfl rfl) (.inl rfl) ?_
      rintro _ _ rfl
      refine k_chg0 rfl rfl rfl (chg_store tt_ok rfl Upd.here rfl rfl rfl rfl rfl rfl) (.inl rfl) ?_
      rintro _ _ rfl
      refine k_end (by kernel_rfl) ?_
      exact wx_join ⟨b8, b9, rfl, rfl⟩ (agree_cons rfl (agree_cons rfl (agree_cons rfl (agree_cons rfl agree_nil)))) (pSub (pCons (Sel.sc (Sel.sc Sel.hc)) (pCons (Sel.sc (Sel.sc (Sel.sc Sel.hc))) (pCons (Sel.sc Sel.hc) (pCons Sel.hc (pApp (Sel.sc Sel.ha) pNil))))))
    refine k_chgf rfl rfl (chg_alloc tt_ok rfl) rfl (.inr (by rintro _ _ ⟨_, rfl, rfl⟩; exact ⟨_, (pCons (Sel.sc Sel.hc) (pCons (Sel.sc Sel.hc) (pCons (Sel.sc Sel.hc) (pApp (Sel.sc Sel.ha) pNil))))⟩)) ?_
    rintro _ _ ⟨b9, rfl, rfl⟩
    refine k_two (i := 3) (j := 8) (t1 := []) (t2 := [3, 7, 10, 11]) (by kernel_rfl) (by kernel_rfl) (by kernel_rfl) (by kernel_rfl) ?_ ?_
    · refine k_cqf rfl rfl Tryd.call57 rfl rfl rfl (q_pf (k_step_moved x85) (fun _ _ => trivial)) rfl (pSub (pCons (Sel.sc Sel.hc) (pCons (Sel.sc Sel.hc) (pCons (Sel.sc Sel.hc) (pApp (Sel.sc Sel.ha) pNil))))) ?_
      refine k_two (i := 7) (j := 8) (t1 := [8, 10, 11]) (t2 := [7, 10, 11]) (by kernel_rfl) (by kernel_rfl) (by kernel_rfl) (by kernel_rfl) ?_ ?_
      · refine k_cqf rfl rfl Tryd.call57 rfl rfl rfl (q_pf (k_step_moved x89) (fun _ _ => trivial)) rfl (pSub (pCons (Sel.sc Sel.hc) (pCons (Sel.sc Sel.hc) (pCons (Sel.sc Sel.hc) (pApp (Sel.sc Sel.ha) pNil))))) ?_
        refine k_chg rfl rfl rfl (chg_alloc tt_ok rfl) rfl (.inr (by rintro _ _ ⟨_, rfl, rfl⟩; exact ⟨_, (pCons (Sel.sc (Sel.sc Sel.hc)) (pCons (Sel.sc (Sel.sc Sel.hc)) (pCons (Sel.sc (Sel.sc Sel.hc)) (pApp (Sel.sc (Sel.sc Sel.ha)) pNil))))⟩)) ?_
        rintro _ _ ⟨b8, rfl, rfl⟩
        refine k_chg0 rfl rfl rfl (chg_store tt_ok rfl Upd.here rfl rfl rfl rfl rfl rfl) (.inl rfl) ?_
        rintro _ _ rfl
        refine k_chg0 rfl rfl rfl (chg_store tt_ok rfl (Upd.there Upd.here) rfl rfl rfl rfl rfl rfl) (.inl rfl) ?_
        rintro _ _ rfl
        refine k_end (by kernel_rfl) ?_
        exact wx_join ⟨b8, b9, rfl, rfl⟩ (agree_cons rfl (agree_cons rfl (agree_cons rfl (agree_cons rfl agree_nil)))) (pSub (pCons (Sel.sc (Sel.sc Sel.hc)) (pCons (Sel.sc (Sel.sc (Sel.sc Sel.hc))) (pCons Sel.hc (pCons Sel.hc (pApp (Sel.sc Sel.ha) pNil))))))
      refine k_chgf rfl rfl (chg_alloc tt_ok rfl) rfl (.inr (by rintro _ _ ⟨_, rfl, rfl⟩; exact ⟨_, (pCons (Sel.sc (Sel.sc Sel.hc)) (pCons (Sel.sc (Sel.sc Sel.hc)) (pCons (Sel.sc (Sel.sc Sel.hc)) (pApp (Sel.sc (Sel.sc Sel.ha)) pNil))))⟩)) ?_
      rintro _ _ ⟨b8, rfl, rfl⟩
      refine k_cq rfl rfl rfl Tryd.call57 rfl rfl rfl (q_pf (k_step_moved x89) (fun _ _ => trivial)) rfl (pSub (pCons (Sel.sc (Sel.sc Sel.hc)) (pCons (Sel.sc (Sel.sc Sel.hc)) (pCons (Sel.sc (Sel.sc Sel.hc)) (pApp (Sel.sc (Sel.sc Sel.ha)) pNil))))) ?_
      refine k_chg0 rfl rfl rfl (chg_store tt_ok rfl Upd.here rfl rfl rfl rfl rfl rfl) (.inl rfl) ?_
      rintro _ _ rfl
      refine k_chg0 rfl rfl rfl (chg_store tt_ok rfl (Upd.there Upd.here) rfl rfl rfl rfl rfl rfl) (.inl rfl) ?_
      rintro _ _ rfl
      refine k_end (by kernel_rfl) ?_
      exact wx_join ⟨b8, b9, rfl, rfl⟩ (agree_cons rfl (agree_cons rfl (agree_cons rfl (agree_cons rfl agree_nil)))) (pSub (pCons (Sel.sc (Sel.sc Sel.hc)) (pCons (Sel.sc (Sel.sc (Sel.sc Sel.hc))) (pCons Sel.hc (pCons Sel.hc (pApp (Sel.sc Sel.ha) pNil))))))
    refine k_chgf rfl rfl (chg_alloc tt_ok rfl) rfl (.inr (by rintro _ _ ⟨_, rfl, rfl⟩; exact ⟨_, (pCons (Sel.sc (Sel.sc Sel.hc)) (pCons (Sel.sc (Sel.sc Sel.hc)) (pCons (Sel.sc (Sel.sc Sel.hc)) (pApp (Sel.sc (Sel.sc Sel.ha)) pNil))))⟩)) ?_
    rintro _ _ ⟨b8, rfl, rfl⟩
    refine k_cq rfl rfl rfl Tryd.call57 rfl rfl rfl (q_pf (k_step_moved x85) (fun _ _ => trivial)) rfl (pSub (pCons (Sel.sc (Sel.sc Sel.hc)) (pCons (Sel.sc (Sel.sc Sel.hc)) (pCons (Sel.sc (Sel.sc Sel.hc)) (pApp (Sel.sc (Sel.sc Sel.ha)) pNil))))) ?_
    refine k_cq rfl rfl rfl Tryd.call57 rfl rfl rfl (q_pf (k_step_moved x89) (fun _ _ => trivial)) rfl (pSub (pCons (Sel.sc (Sel.sc Sel.hc)) (pCons (Sel.sc (Sel.sc Sel.hc)) (pCons (Sel.sc (Sel.sc Sel.hc)) (pApp (Sel.sc (Sel.sc Sel.ha)) pNil))))) ?_
    refine k_chg0 rfl rfl rfl (chg_store tt_ok rfl Upd.here rfl rfl rfl rfl rfl rfl) (.inl rfl) ?_
    rintro _ _ rfl
    refine k_chg0 rfl rfl rfl (chg_store tt_ok rfl (Upd.there Upd.here) rfl rfl rfl rfl rfl rfl) (.inl rfl) ?_
    rintro _ _ rfl
    refine k_end (by kernel_rfl) ?_
    exact wx_join ⟨b8, b9, rfl, rfl⟩ (agree_cons rfl (agree_cons rfl (agree_cons rfl (agree_cons rfl agree_nil)))) (pSub (pCons (Sel.sc (Sel.sc Sel.hc)) (pCons (Sel.sc (Sel.sc (Sel.sc Sel.hc))) (pCons Sel.hc (pCons Sel.hc (pApp (Sel.sc Sel.ha) pNil))))))
  rintro _ _ ⟨b8, b9, rfl, rfl⟩
  refine wc_seq (wc_seq ?_)
  refine wc_quiet (by kernel_rfl) (by kernel_rfl) ?_
  refine wq_val (v := .agg #[.int .i32 v85.X, .int .i32 v85.Y, .int .i32 v85.VX, .int .i32 v85.VY, .int .u8 v85.Health, .int .u8 v85.Cool, .int .u8 v85.Face]) (val_load tt_ok rfl (List.Mem.tail _ (List.Mem.tail _ (List.Mem.head _))) rfl) rfl ?_
  replace h := bsome h; obtain ⟨v91, x91, h⟩ := h
  refine wq_cq Tryd.call59 rfl rfl rfl (q_pf (k_step_box x91) (fun _ _ => trivial)) rfl ?_
  refine wq_val (v := .agg #[.int .i32 v89.X, .int .i32 v89.Y, .int .i32 v89.VX, .int .i32 v89.VY, .int .u8 v89.Health, .int .u8 v89.Cool, .int .u8 v89.Face]) (val_load tt_ok rfl (List.Mem.tail _ (List.Mem.tail _ (List.Mem.tail _ (List.Mem.head _)))) rfl) rfl ?_
  replace h := bsome h; obtain ⟨v93, x93, h⟩ := h
  refine wq_cq Tryd.call59 rfl rfl rfl (q_pf (k_step_box x93) (fun _ _ => trivial)) rfl ?_
  replace h := bsome h; obtain ⟨v94, x94, h⟩ := h
  refine wq_cq Tryd.call58 rfl rfl rfl (q_pf (k_geom_Over x94) (fun _ _ => trivial)) rfl ?_
  refine wq_nil ?_
  refine wx_then ?_
  replace h := bsome h; obtain ⟨⟨j60_n8, j60_n9⟩, h, hj60⟩ := h; try dsimp only at hj60
  refine wc_join2 (fun E L => E = [(2, .pointer (some ⟨b2, 0, none⟩)), (4, .pointer (some ⟨b4, 0, none⟩)), (8, .pointer (some ⟨b8, 0, none⟩)), (9, .pointer (some ⟨b9, 0, none⟩))] ∧ L = (⟨b2, [.int .u64 v12.Frame, .int .u64 v12.Seed, .int .i32 j34_n2_f2.1.X, .int .i32 j34_n2_f2.1.Y, .int .i32 j34_n2_f2.1.VX, .int .i32 j34_n2_f2.1.VY, .int .u8 j34_n2_f2.1.Health, .int .u8 j34_n2_f2.1.Cool, .int .u8 j34_n2_f2.1.Face, .int .i32 j34_n2_f2.2.X, .int .i32 j34_n2_f2.2.Y, .int .i32 j34_n2_f2.2.VX, .int .i32 j34_n2_f2.2.VY, .int .u8 j34_n2_f2.2.Health, .int .u8 j34_n2_f2.2.Cool, .int .u8 j34_n2_f2.2.Face, .slice j34_n2_f3a0 j34_n2_f3n0 j34_n2_f3c0, .int .u16 v12.Score.1, .int .u16 v12.Score.2], 36, (0, 0)⟩ :: (⟨b4, [.int .u64 (0 : Int), .int .u64 (0 : Int), .int .i32 (0 : Int), .int .i32 (0 : Int), .int .i32 (0 : Int), .int .i32 (0 : Int), .int .u8 (0 : Int), .int .u8 (0 : Int), .int .u8 (0 : Int), .int .i32 (0 : Int), .int .i32 (0 : Int), .int .i32 (0 : Int), .int .i32 (0 : Int), .int .u8 (0 : Int), .int .u8 (0 : Int), .int .u8 (0 : Int), .slice none 0 0, .int .u16 (0 : Int), .int .u16 (0 : Int)], 36, (0, 0)⟩ :: (⟨b8, [.int .i32 j60_n8.X, .int .i32 j60_n8.Y, .int .i32 j60_n8.VX, .int .i32 j60_n8.VY, .int .u8 j60_n8.Health, .int .u8 j60_n8.Cool, .int .u8 j60_n8.Face], 30, (0, 0)⟩ :: (⟨b9, [.int .i32 j60_n9.X, .int .i32 j60_n9.Y, .int .i32 j60_n9.VX, .int .i32 j60_n9.VY, .int .u8 j60_n9.Health, .int .u8 j60_n9.Cool, .int .u8 j60_n9.Face], 30, (0, 0)⟩ :: (j34_n2_f3B0 ++ [])))))) ?_ ?_
  · refine wc_cond rfl (fun hc => ?_) (fun hc => ?_)
    · replace h := ct hc h
      refine wc_k2 (Ls := (⟨b2, [.int .u64 v12.Frame, .int .u64 v12.Seed, .int .i32 j34_n2_f2.1.X, .int .i32 j34_n2_f2.1.Y, .int .i32 j34_n2_f2.1.VX, .int .i32 j34_n2_f2.1.VY, .int .u8 j34_n2_f2.1.Health, .int .u8 j34_n2_f2.1.Cool, .int .u8 j34_n2_f2.1.Face, .int .i32 j34_n2_f2.2.X, .int .i32 j34_n2_f2.2.Y, .int .i32 j34_n2_f2.2.VX, .int .i32 j34_n2_f2.2.VY, .int .u8 j34_n2_f2.2.Health, .int .u8 j34_n2_f2.2.Cool, .int .u8 j34_n2_f2.2.Face, .slice j34_n2_f3a0 j34_n2_f3n0 j34_n2_f3c0, .int .u16 v12.Score.1, .int .u16 v12.Score.2], 36, (0, 0)⟩ :: (⟨b4, [.int .u64 (0 : Int), .int .u64 (0 : Int), .int .i32 (0 : Int), .int .i32 (0 : Int), .int .i32 (0 : Int), .int .i32 (0 : Int), .int .u8 (0 : Int), .int .u8 (0 : Int), .int .u8 (0 : Int), .int .i32 (0 : Int), .int .i32 (0 : Int), .int .i32 (0 : Int), .int .i32 (0 : Int), .int .u8 (0 : Int), .int .u8 (0 : Int), .int .u8 (0 : Int), .slice none 0 0, .int .u16 (0 : Int), .int .u16 (0 : Int)], 36, (0, 0)⟩ :: (⟨b8, [.int .i32 v85.X, .int .i32 v85.Y, .int .i32 v85.VX, .int .i32 v85.VY, .int .u8 v85.Health, .int .u8 v85.Cool, .int .u8 v85.Face], 30, (0, 0)⟩ :: (⟨b9, [.int .i32 v89.X, .int .i32 v89.Y, .int .i32 v89.VX, .int .i32 v89.VY, .int .u8 v89.Health, .int .u8 v89.Cool, .int .u8 v89.Face], 30, (0, 0)⟩ :: (j34_n2_f3B0 ++ [])))))) [3, 7, 8, 9] [7, 8, 9] [0, 1, 3, 7, 0, 16, 48, 127, 255, 511] [0, 1, 2, 4, 5, 6, 3, 7, 8, 9] (by kernel_rfl) (by kernel_rfl) (by kernel_rfl) ?_
      refine k_val (v := .pointer (some ⟨b2, 2, none⟩)) rfl rfl rfl (pSub (pCons Sel.hc (pCons Sel.hc (pCons Sel.hc (pCons Sel.hc (pApp Sel.ha pNil)))))) (stepV_ok tt_ok rfl) rfl ?_
      refine k_val (v := .pointer (some ⟨b2, 2, none⟩)) rfl rfl rfl (pSub (pCons Sel.hc (pCons Sel.hc (pCons Sel.hc (pCons Sel.hc (pApp Sel.ha pNil)))))) (val_ia (j := 0) tt_ok rfl rfl rfl rfl rfl rfl rfl) rfl ?_
      refine k_val (v := .agg #[.int .i32 j34_n2_f2.1.X, .int .i32 j34_n2_f2.1.Y, .int .i32 j34_n2_f2.1.VX, .int .i32 j34_n2_f2.1.VY, .int .u8 j34_n2_f2.1.Health, .int .u8 j34_n2_f2.1.Cool, .int .u8 j34_n2_f2.1.Face]) rfl rfl rfl (pSub (pCons Sel.hc (pCons Sel.hc (pCons Sel.hc (pCons Sel.hc (pApp Sel.ha pNil)))))) (val_load tt_ok rfl (List.Mem.head _) rfl) rfl ?_
      refine k_val (v := .pointer (some ⟨b2, 2, none⟩)) rfl rfl rfl (pSub (pCons Sel.hc (pCons Sel.hc (pCons Sel.hc (pCons Sel.hc (pApp Sel.ha pNil)))))) (stepV_ok tt_ok rfl) rfl ?_
      refine k_val (v := .pointer (some ⟨b2, 9, none⟩)) rfl rfl rfl (pSub (pCons Sel.hc (pCons Sel.hc (pCons Sel.hc (pCons Sel.hc (pApp Sel.ha pNil)))))) (val_ia (j := 1) tt_ok rfl rfl rfl rfl rfl rfl rfl) rfl ?_
      refine k_val (v := .agg #[.int .i32 j34_n2_f2.2.X, .int .i32 j34_n2_f2.2.Y, .int .i32 j34_n2_f2.2.VX, .int .i32 j34_n2_f2.2.VY, .int .u8 j34_n2_f2.2.Health, .int .u8 j34_n2_f2.2.Cool, .int .u8 j34_n2_f2.2.Face]) rfl rfl rfl (pSub (pCons Sel.hc (pCons Sel.hc (pCons Sel.hc (pCons Sel.hc (pApp Sel.ha pNil)))))) (val_load tt_ok rfl (List.Mem.head _) rfl) rfl ?_
      replace h := bsome h; obtain ⟨v98, x98, h⟩ := h
      refine k_cq rfl rfl rfl Tryd.call60 rfl rfl rfl (q_pf (k_step_stopped x98) (fun _ _ => trivial)) rfl (pSub (pCons Sel.hc (pCons Sel.hc (pCons Sel.hc (pCons Sel.hc (pApp Sel.ha pNil)))))) ?_
      replace h := bsome h; obtain ⟨v102, x102, h⟩ := h
      refine k_cq rfl rfl rfl Tryd.call60 rfl rfl rfl (q_pf (k_step_stopped x102) (fun _ _ => trivial)) rfl (pSub (pCons Sel.hc (pCons Sel.hc (pCons Sel.hc (pCons Sel.hc (pApp Sel.ha pNil)))))) ?_
      refine k_chg0 rfl rfl rfl (chg_store tt_ok rfl (Upd.there (Upd.there Upd.here)) rfl rfl rfl rfl rfl rfl) (.inl rfl) ?_
      rintro _ _ rfl
      refine k_chg0 rfl rfl rfl (chg_store tt_ok rfl (Upd.there (Upd.there (Upd.there Upd.here))) rfl rfl rfl rfl rfl rfl) (.inl rfl) ?_
      rintro _ _ rfl
      refine k_end (by kernel_rfl) ?_
      simp only [Option.some.injEq, Prod.mk.injEq] at h
      obtain ⟨rfl, rfl⟩ := h
      exact wx_join ⟨rfl, rfl⟩ (agree_cons rfl (agree_cons rfl (agree_cons rfl (agree_cons rfl agree_nil)))) (pSub (pCons Sel.hc (pCons Sel.hc (pCons Sel.hc (pCons Sel.hc (pApp Sel.ha pNil))))))
    replace h := cf hc h
    refine wc_skip ?_
    simp only [Option.some.injEq, Prod.mk.injEq] at h
    obtain ⟨rfl, rfl⟩ := h
    exact wx_join ⟨rfl, rfl⟩ (agree_cons rfl (agree_cons rfl (agree_cons rfl (agree_cons rfl agree_nil)))) (pSub (pCons Sel.hc (pCons Sel.hc (pCons Sel.hc (pCons Sel.hc (pApp Sel.ha pNil))))))
  rintro _ _ ⟨rfl, rfl⟩
  have h := hj60; clear hj60
  refine wc_seq (wc_region ?_)
  refine wl_val (v := .agg #[.int .i32 j60_n8.X, .int .i32 j60_n8.Y, .int .i32 j60_n8.VX, .int .i32 j60_n8.VY, .int .u8 j60_n8.Health, .int .u8 j60_n8.Cool, .int .u8 j60_n8.Face]) (val_load tt_ok rfl (List.Mem.tail _ (List.Mem.tail _ (List.Mem.head _))) rfl) rfl ?_
  refine wl_val (v := .agg #[.int .i32 j60_n9.X, .int .i32 j60_n9.Y, .int .i32 j60_n9.VX, .int .i32 j60_n9.VY, .int .u8 j60_n9.Health, .int .u8 j60_n9.Cool, .int .u8 j60_n9.Face]) (val_load tt_ok rfl (List.Mem.tail _ (List.Mem.tail _ (List.Mem.tail _ (List.Mem.head _)))) rfl) rfl ?_
  refine wl_pure (v := .agg #[.int .i32 j60_n8.X, .int .i32 j60_n8.Y, .int .i32 j60_n8.VX, .int .i32 j60_n8.VY, .int .u8 j60_n8.Health, .int .u8 j60_n8.Cool, .int .u8 j60_n8.Face, .int .i32 j60_n9.X, .int .i32 j60_n9.Y, .int .i32 j60_n9.VX, .int .i32 j60_n9.VY, .int .u8 j60_n9.Health, .int .u8 j60_n9.Cool, .int .u8 j60_n9.Face]) tt_ok rfl rfl ?_
  refine wl_pure (v := .pointer (some ⟨b2, 2, none⟩)) tt_ok rfl rfl ?_
  apply wl_store tt_ok; rfl; exact Upd.here; rfl; rfl; rfl; rfl; rfl; rfl
  refine wl_nil (wx_then (wc_seq (wc_region ?_)))
  replace h := bsome h; obtain ⟨o107_0, x107, h⟩ := h
  refine wl_cs Tryd.call61 rfl rfl rfl (s_sp (k_step_fly (p0 := (T_api_State.mk v12.Frame v12.Seed (j60_n8, j60_n9) j34_n2_f3 v12.Score)) j34_n2_f3N0 j34_n2_f3V0 x107) (pCons Sel.hc (pApp (Sel.sc (Sel.sc (Sel.sc Sel.ha))) pNil)) (fun _ _ => trivial)) rfl ?_
  rintro _ _ ⟨_, ⟨o107_0a0, o107_0n0, o107_0c0, o107_0B0, o107_0N0, o107_0V0, rfl, rfl⟩, rfl⟩
  refine wl_nil (wx_then (wc_seq (wc_seq (wc_region ?_))))
  refine wl_pure tt_ok rfl rfl ?_
  refine wl_nil (wx_then (wc_block ?_))
  replace h := bsome h; obtain ⟨⟨l71_n2_f0, l71_n2_f1, l71_n2_f2, l71_n2_f3, l71_n2_f4⟩, h, hl71⟩ := h; try dsimp only at hl71
  refine wc_loop (fun m E L => ∃ (j71_108 : Int) (j71_n2_f0 : Int) (j71_n2_f1 : Int) (j71_n2_f2 : (T_api_Player × T_api_Player)) (j71_n2_f3 : (List T_api_Shot)) (j71_n2_f4 : (Int × Int)) (j71_n2_f3a0 : Option Addr) (j71_n2_f3n0 : Nat) (j71_n2_f3c0 : Nat) (j71_n2_f3B0 : List Blk), m_step_Step_L70 F m j71_108 j71_n2_f0 j71_n2_f1 j71_n2_f2 j71_n2_f3 j71_n2_f4 = some (l71_n2_f0, l71_n2_f1, l71_n2_f2, l71_n2_f3, l71_n2_f4) ∧ j71_n2_f3n0 = j71_n2_f3.length ∧ Own 80 6 j71_n2_f3a0 j71_n2_f3n0 j71_n2_f3c0 (flat c_T_api_Shot j71_n2_f3) j71_n2_f3B0 ∧ E = [(2, .pointer (some ⟨b2, 0, none⟩)), (4, .pointer (some ⟨b4, 0, none⟩)), (108, .int .i64 j71_108)] ∧ L = (⟨b2, [.int .u64 j71_n2_f0, .int .u64 j71_n2_f1, .int .i32 j71_n2_f2.1.X, .int .i32 j71_n2_f2.1.Y, .int .i32 j71_n2_f2.1.VX, .int .i32 j71_n2_f2.1.VY, .int .u8 j71_n2_f2.1.Health, .int .u8 j71_n2_f2.1.Cool, .int .u8 j71_n2_f2.1.Face, .int .i32 j71_n2_f2.2.X, .int .i32 j71_n2_f2.2.Y, .int .i32 j71_n2_f2.2.VX, .int .i32 j71_n2_f2.2.VY, .int .u8 j71_n2_f2.2.Health, .int .u8 j71_n2_f2.2.Cool, .int .u8 j71_n2_f2.2.Face, .slice j71_n2_f3a0 j71_n2_f3n0 j71_n2_f3c0, .int .u16 j71_n2_f4.1, .int .u16 j71_n2_f4.2], 36, (0, 0)⟩ :: (⟨b4, [.int .u64 (0 : Int), .int .u64 (0 : Int), .int .i32 (0 : Int), .int .i32 (0 : Int), .int .i32 (0 : Int), .int .i32 (0 : Int), .int .u8 (0 : Int), .int .u8 (0 : Int), .int .u8 (0 : Int), .int .i32 (0 : Int), .int .i32 (0 : Int), .int .i32 (0 : Int), .int .i32 (0 : Int), .int .u8 (0 : Int), .int .u8 (0 : Int), .int .u8 (0 : Int), .slice none 0 0, .int .u16 (0 : Int), .int .u16 (0 : Int)], 36, (0, 0)⟩ :: (j71_n2_f3B0 ++ [])))) F ⟨(0 : Int), o107_0.Frame, o107_0.Seed, o107_0.Players, o107_0.Shots, o107_0.Score, o107_0a0, o107_0n0, o107_0c0, o107_0B0, h, o107_0N0, o107_0V0, rfl, rfl⟩ (agree_cons rfl (agree_cons rfl (agree_cons rfl agree_nil))) (pSub (pCons Sel.hc (pCons (Sel.sa Sel.hc) (pApp Sel.ha pNil)))) ?_
  clear h
  rintro m71 _ _ ⟨j71_108, j71_n2_f0, j71_n2_f1, j71_n2_f2, j71_n2_f3, j71_n2_f4, j71_n2_f3a0, j71_n2_f3n0, j71_n2_f3c0, j71_n2_f3B0, h, j71_n2_f3N0, j71_n2_f3V0, rfl, rfl⟩
  rcases m71 with _ | m71
  · rw [m_step_Step_L70.eq_1] at h; cases h
  rw [m_step_Step_L70.eq_2] at h
  refine wc_seq (wc_region ?_)
  refine wl_pure (v := .bool (decide (j71_108 < (2 : Int)))) tt_ok rfl rfl ?_
  refine wl_nil (wx_then (wc_seq ?_))
  refine wc_cond rfl (fun hc => ?_) (fun hc => ?_)
  · replace h := ct hc h
    refine wc_skip (wx_then (wc_seq (wc_block (wc_seq (wc_region ?_)))))
    iterate 2 refine wl_pure tt_ok rfl rfl ?_
    refine wl_nil (wx_then (wc_seq (wc_region ?_)))
    refine wl_pure tt_ok rfl rfl ?_
    refine wl_pure (v := .pointer (some ⟨b2, 2, none⟩)) tt_ok rfl rfl ?_
    rcases Bool.eq_false_or_eq_true (j71_108 == (0 : Int)) with hx1130 | hx1130
    · replace h := ct hx1130 h
      refine wl_val (v := .pointer (some ⟨b2, 2, none⟩)) (val_ia (j := 0) tt_ok rfl rfl rfl rfl (by simpa using hx1130) rfl rfl) rfl ?_
      refine wl_pure (v := .pointer (some ⟨b2, 6, none⟩)) tt_ok rfl rfl ?_
      refine wl_val (v := .int .u8 j71_n2_f2.1.Health) (val_load tt_ok rfl (List.Mem.head _) rfl) rfl ?_
      refine wl_pure (v := .bool (j71_n2_f2.1.Health == (0 : Int))) tt_ok rfl rfl ?_
      refine wl_nil (wx_then ?_)
      refine wc_cond rfl (fun hc => ?_) (fun hc => ?_)
      · replace h := ct hc h
        refine wc_region ?_
        refine wl_pure tt_ok rfl rfl ?_
        replace h := bsome h; obtain ⟨o118_0, x118, h⟩ := h
        refine wl_cs Tryd.call62 rfl rfl rfl (s_sp (k_step_revive (p0 := (T_api_State.mk j71_n2_f0 j71_n2_f1 j71_n2_f2 j71_n2_f3 j71_n2_f4)) j71_n2_f3N0 j71_n2_f3V0 x118) (pCons Sel.hc (pApp (Sel.sc Sel.ha) pNil)) (fun _ _ => trivial)) rfl ?_
        rintro _ _ ⟨_, ⟨o118_0a0, o118_0n0, o118_0c0, o118_0B0, o118_0N0, o118_0V0, rfl, rfl⟩, rfl⟩
        refine wl_nil (wx_block (wx_then (wc_region ?_)))
        refine wl_pure (v := .int .i64 (IntKind.wrap .i64 (j71_108 + (1 : Int)))) tt_ok rfl rfl ?_
        refine wl_pure tt_ok rfl rfl ?_
        refine wl_nil ?_
        exact wx_round m71 (Nat.lt_succ_self m71) ⟨(IntKind.wrap .i64 (j71_108 + (1 : Int))), o118_0.Frame, o118_0.Seed, o118_0.Players, o118_0.Shots, o118_0.Score, o118_0a0, o118_0n0, o118_0c0, o118_0B0, h, o118_0N0, o118_0V0, rfl, rfl⟩ (agree_cons rfl (agree_cons rfl (agree_cons rfl agree_nil))) (pSub (pCons Sel.hc (pCons (Sel.sa Sel.hc) (pApp Sel.ha pNil))))
      replace h := cf hc h
      refine wc_skip (wx_block (wx_then (wc_region ?_)))
      refine wl_pure (v := .int .i64 (IntKind.wrap .i64 (j71_108 + (1 : Int)))) tt_ok rfl rfl ?_
      refine wl_pure tt_ok rfl rfl ?_
      refine wl_nil ?_
      exact wx_round m71 (Nat.lt_succ_self m71) ⟨(IntKind.wrap .i64 (j71_108 + (1 : Int))), j71_n2_f0, j71_n2_f1, j71_n2_f2, j71_n2_f3, j71_n2_f4, j71_n2_f3a0, j71_n2_f3n0, j71_n2_f3c0, j71_n2_f3B0, h, j71_n2_f3N0, j71_n2_f3V0, rfl, rfl⟩ (agree_cons rfl (agree_cons rfl (agree_cons rfl agree_nil))) (pSub (pCons Sel.hc (pCons Sel.hc (pApp Sel.ha pNil))))
    replace h := cf hx1130 h
    rcases Bool.eq_false_or_eq_true (j71_108 == (1 : Int)) with hx1131 | hx1131
    · replace h := ct hx1131 h
      refine wl_val (v := .pointer (some ⟨b2, 9, none⟩)) (val_ia (j := 1) tt_ok rfl rfl rfl rfl (by simpa using hx1131) rfl rfl) rfl ?_
      refine wl_pure (v := .pointer (some ⟨b2, 13, none⟩)) tt_ok rfl rfl ?_
      refine wl_val (v := .int .u8 j71_n2_f2.2.Health) (val_load tt_ok rfl (List.Mem.head _) rfl) rfl ?_
      refine wl_pure (v := .bool (j71_n2_f2.2.Health == (0 : Int))) tt_ok rfl rfl ?_
      refine wl_nil (wx_then ?_)
      refine wc_cond rfl (fun hc => ?_) (fun hc => ?_)
      · replace h := ct hc h
        refine wc_region ?_
        refine wl_pure tt_ok rfl rfl ?_
        replace h := bsome h; obtain ⟨o118_0, x118, h⟩ := h
        refine wl_cs Tryd.call62 rfl rfl rfl (s_sp (k_step_revive (p0 := (T_api_State.mk j71_n2_f0 j71_n2_f1 j71_n2_f2 j71_n2_f3 j71_n2_f4)) j71_n2_f3N0 j71_n2_f3V0 x118) (pCons Sel.hc (pApp (Sel.sc Sel.ha) pNil)) (fun _ _ => trivial)) rfl ?_
        rintro _ _ ⟨_, ⟨o118_0a0, o118_0n0, o118_0c0, o118_0B0, o118_0N0, o118_0V0, rfl, rfl⟩, rfl⟩
        refine wl_nil (wx_block (wx_then (wc_region ?_)))
        refine wl_pure (v := .int .i64 (IntKind.wrap .i64 (j71_108 + (1 : Int)))) tt_ok rfl rfl ?_
        refine wl_pure tt_ok rfl rfl ?_
        refine wl_nil ?_
        exact wx_round m71 (Nat.lt_succ_self m71) ⟨(IntKind.wrap .i64 (j71_108 + (1 : Int))), o118_0.Frame, o118_0.Seed, o118_0.Players, o118_0.Shots, o118_0.Score, o118_0a0, o118_0n0, o118_0c0, o118_0B0, h, o118_0N0, o118_0V0, rfl, rfl⟩ (agree_cons rfl (agree_cons rfl (agree_cons rfl agree_nil))) (pSub (pCons Sel.hc (pCons (Sel.sa Sel.hc) (pApp Sel.ha pNil))))
      replace h := cf hc h
      refine wc_skip (wx_block (wx_then (wc_region ?_)))
      refine wl_pure (v := .int .i64 (IntKind.wrap .i64 (j71_108 + (1 : Int)))) tt_ok rfl rfl ?_
      refine wl_pure tt_ok rfl rfl ?_
      refine wl_nil ?_
      exact wx_round m71 (Nat.lt_succ_self m71) ⟨(IntKind.wrap .i64 (j71_108 + (1 : Int))), j71_n2_f0, j71_n2_f1, j71_n2_f2, j71_n2_f3, j71_n2_f4, j71_n2_f3a0, j71_n2_f3n0, j71_n2_f3c0, j71_n2_f3B0, h, j71_n2_f3N0, j71_n2_f3V0, rfl, rfl⟩ (agree_cons rfl (agree_cons rfl (agree_cons rfl agree_nil))) (pSub (pCons Sel.hc (pCons Sel.hc (pApp Sel.ha pNil))))
    replace h := cf hx1131 h
    cases h
  replace h := cf hc h
  refine wc_exit (wx_then_exit ?_)
  simp only [Option.some.injEq, Prod.mk.injEq] at h
  obtain ⟨rfl, rfl, rfl, rfl, rfl⟩ := h
  have h := hl71; clear hl71; try dsimp only [orE_l, orE_r] at h
  refine wx_then_exit (wx_block_exit (wx_then (wc_seq (wc_region ?_))))
  refine wl_pure (v := .pointer (some ⟨b2, 0, none⟩)) tt_ok rfl rfl ?_
  refine wl_val (v := .int .u64 j71_n2_f0) (val_load tt_ok rfl (List.Mem.head _) rfl) rfl ?_
  refine wl_pure (v := .int .u64 (IntKind.wrap .u64 (j71_n2_f0 + (1 : Int)))) tt_ok rfl rfl ?_
  refine wl_pure (v := .pointer (some ⟨b2, 0, none⟩)) tt_ok rfl rfl ?_
  apply wl_store tt_ok; rfl; exact Upd.here; rfl; rfl; rfl; rfl; rfl; rfl
  refine wl_nil (wx_then (wc_seq (wc_region ?_)))
  refine wl_val (v := .agg #[.int .u64 (IntKind.wrap .u64 (j71_n2_f0 + (1 : Int))), .int .u64 j71_n2_f1, .int .i32 j71_n2_f2.1.X, .int .i32 j71_n2_f2.1.Y, .int .i32 j71_n2_f2.1.VX, .int .i32 j71_n2_f2.1.VY, .int .u8 j71_n2_f2.1.Health, .int .u8 j71_n2_f2.1.Cool, .int .u8 j71_n2_f2.1.Face, .int .i32 j71_n2_f2.2.X, .int .i32 j71_n2_f2.2.Y, .int .i32 j71_n2_f2.2.VX, .int .i32 j71_n2_f2.2.VY, .int .u8 j71_n2_f2.2.Health, .int .u8 j71_n2_f2.2.Cool, .int .u8 j71_n2_f2.2.Face, .slice j71_n2_f3a0 j71_n2_f3n0 j71_n2_f3c0, .int .u16 j71_n2_f4.1, .int .u16 j71_n2_f4.2]) (val_load tt_ok rfl (List.Mem.head _) rfl) rfl ?_
  apply wl_store tt_ok; rfl; exact (Upd.there Upd.here); rfl; rfl; rfl; rfl; rfl; rfl
  refine wl_nil (wx_then (wc_ret ?_))
  simp only [Option.some.injEq] at h
  obtain rfl := h
  exact wx_spD tt_ok (.inl rfl) Tryd.results38 (Res.cell rfl (List.Mem.tail _ (List.Mem.head _)) rfl Res.nil) ⟨j71_n2_f3a0, j71_n2_f3n0, j71_n2_f3c0, j71_n2_f3B0, j71_n2_f3N0, j71_n2_f3V0, rfl, rfl⟩ (fun F => by simp) (pSub (pApp (Sel.sc (Sel.sc Sel.ha)) pNil))

theorem k_rollback_Engine_Shown {F : Nat} {p0 : T_rollback_Engine} {p0b p0t : Nat} {p0a0 : Option Addr} {p0n0 : Nat} {p0c0 : Nat} {p0B0 : List Blk} {p0a1 : Option Addr} {p0n1 : Nat} {p0c1 : Nat} {p0B1 : List Blk} {p0_4 : T_queue_Queue} {p0_4b p0_4t : Nat} {p0_4a0 : Option Addr} {p0_4n0 : Nat} {p0_4c0 : Nat} {p0_4B0 : List Blk} {p0_5 : T_ring_Ring} {p0_5b p0_5t : Nat} {p0_5g0 : List (T_ring_place × G)} {p0_5P0 : List Blk} {r0 : T_ring_Ring} {r1 : T_api_State} (p0N0 : p0n0 = p0.sure.Shots.length) (p0V0 : Own 80 6 p0a0 p0n0 p0c0 (flat c_T_api_Shot p0.sure.Shots) p0B0) (p0N1 : p0n1 = p0.own.length) (p0V1 : Own 40 1 p0a1 p0n1 p0c1 (flat (e1 .u8) p0.own) p0B1) (p0_4N0 : p0_4n0 = p0_4.l.length) (p0_4V0 : Own 40 1 p0_4a0 p0_4n0 p0_4c0 (flat (e1 .u8) p0_4.l) p0_4B0) (p0_5G0 : p0_5.places.1 = unG p0_5g0) (p0_5A0 : AllP sh_T_ring_place c_T_api_Shot p0_5P0 p0_5g0) (h : m_rollback_Engine_Shown F p0 p0_4 p0_5 = some (r0, r1)) :
    SpD Tryd.prog 11 [.pointer (some ⟨p0b, 0, none⟩)] (⟨p0b, [.int .u8 p0.player, .int .i64 p0.window, .int .u64 p0.sure.Frame, .int .u64 p0.sure.Seed, .int .i32 p0.sure.Players.1.X, .int .i32 p0.sure.Players.1.Y, .int .i32 p0.sure.Players.1.VX, .int .i32 p0.sure.Players.1.VY, .int .u8 p0.sure.Players.1.Health, .int .u8 p0.sure.Players.1.Cool, .int .u8 p0.sure.Players.1.Face, .int .i32 p0.sure.Players.2.X, .int .i32 p0.sure.Players.2.Y, .int .i32 p0.sure.Players.2.VX, .int .i32 p0.sure.Players.2.VY, .int .u8 p0.sure.Players.2.Health, .int .u8 p0.sure.Players.2.Cool, .int .u8 p0.sure.Players.2.Face, .slice p0a0 p0n0 p0c0, .int .u16 p0.sure.Score.1, .int .u16 p0.sure.Score.2, .slice p0a1 p0n1 p0c1, .pointer (some ⟨p0_4b, 0, none⟩), .pointer (some ⟨p0_5b, 0, none⟩)], p0t, (0, 0)⟩ :: (p0B0 ++ (p0B1 ++ (⟨p0_4b, [.int .u64 p0_4.first_, .slice p0_4a0 p0_4n0 p0_4c0, .int .u8 p0_4.last], p0_4t, (0, 0)⟩ :: (p0_4B0 ++ (⟨p0_5b, ([.int .i64 p0_5.size] ++ flat cg_T_ring_place p0_5g0), p0_5t, (0, 0)⟩ :: (p0_5P0 ++ []))))))) (fun w => Rds w (ids (⟨p0b, [.int .u8 p0.player, .int .i64 p0.window, .int .u64 p0.sure.Frame, .int .u64 p0.sure.Seed, .int .i32 p0.sure.Players.1.X, .int .i32 p0.sure.Players.1.Y, .int .i32 p0.sure.Players.1.VX, .int .i32 p0.sure.Players.1.VY, .int .u8 p0.sure.Players.1.Health, .int .u8 p0.sure.Players.1.Cool, .int .u8 p0.sure.Players.1.Face, .int .i32 p0.sure.Players.2.X, .int .i32 p0.sure.Players.2.Y, .int .i32 p0.sure.Players.2.VX, .int .i32 p0.sure.Players.2.VY, .int .u8 p0.sure.Players.2.Health, .int .u8 p0.sure.Players.2.Cool, .int .u8 p0.sure.Players.2.Face, .slice p0a0 p0n0 p0c0, .int .u16 p0.sure.Score.1, .int .u16 p0.sure.Score.2, .slice p0a1 p0n1 p0c1, .pointer (some ⟨p0_4b, 0, none⟩), .pointer (some ⟨p0_5b, 0, none⟩)], p0t, (0, 0)⟩ :: (p0B0 ++ (p0B1 ++ (⟨p0_4b, [.int .u64 p0_4.first_, .slice p0_4a0 p0_4n0 p0_4c0, .int .u8 p0_4.last], p0_4t, (0, 0)⟩ :: (p0_4B0 ++ (⟨p0_5b, ([.int .i64 p0_5.size] ++ flat cg_T_ring_place p0_5g0), p0_5t, (0, 0)⟩ :: (p0_5P0 ++ [])))))))) [] (some ⟨0, 0, none⟩) (flat (fun _ : Unit => gl_state_playerBounds) [()]) ∧ Rds w (ids (⟨p0b, [.int .u8 p0.player, .int .i64 p0.window, .int .u64 p0.sure.Frame, .int .u64 p0.sure.Seed, .int .i32 p0.sure.Players.1.X, .int .i32 p0.sure.Players.1.Y, .int .i32 p0.sure.Players.1.VX, .int .i32 p0.sure.Players.1.VY, .int .u8 p0.sure.Players.1.Health, .int .u8 p0.sure.Players.1.Cool, .int .u8 p0.sure.Players.1.Face, .int .i32 p0.sure.Players.2.X, .int .i32 p0.sure.Players.2.Y, .int .i32 p0.sure.Players.2.VX, .int .i32 p0.sure.Players.2.VY, .int .u8 p0.sure.Players.2.Health, .int .u8 p0.sure.Players.2.Cool, .int .u8 p0.sure.Players.2.Face, .slice p0a0 p0n0 p0c0, .int .u16 p0.sure.Score.1, .int .u16 p0.sure.Score.2, .slice p0a1 p0n1 p0c1, .pointer (some ⟨p0_4b, 0, none⟩), .pointer (some ⟨p0_5b, 0, none⟩)], p0t, (0, 0)⟩ :: (p0B0 ++ (p0B1 ++ (⟨p0_4b, [.int .u64 p0_4.first_, .slice p0_4a0 p0_4n0 p0_4c0, .int .u8 p0_4.last], p0_4t, (0, 0)⟩ :: (p0_4B0 ++ (⟨p0_5b, ([.int .i64 p0_5.size] ++ flat cg_T_ring_place p0_5g0), p0_5t, (0, 0)⟩ :: (p0_5P0 ++ [])))))))) [] (some ⟨1, 0, none⟩) (flat (fun _ : Unit => gl_state_shotBounds) [()])) (fun v D => ∃ (r0g0 : List (T_ring_place × G)) (r0P0 : List Blk) (r1a0 : Option Addr) (r1n0 : Nat) (r1c0 : Nat) (r1B0 : List Blk), r0.places.1 = unG r0g0 ∧ AllP sh_T_ring_place c_T_api_Shot r0P0 r0g0 ∧ r1n0 = r1.Shots.length ∧ Own 80 6 r1a0 r1n0 r1c0 (flat c_T_api_Shot r1.Shots) r1B0 ∧ v = .agg #[.int .u64 r1.Frame, .int .u64 r1.Seed, .int .i32 r1.Players.1.X, .int .i32 r1.Players.1.Y, .int .i32 r1.Players.1.VX, .int .i32 r1.Players.1.VY, .int .u8 r1.Players.1.Health, .int .u8 r1.Players.1.Cool, .int .u8 r1.Players.1.Face, .int .i32 r1.Players.2.X, .int .i32 r1.Players.2.Y, .int .i32 r1.Players.2.VX, .int .i32 r1.Players.2.VY, .int .u8 r1.Players.2.Health, .int .u8 r1.Players.2.Cool, .int .u8 r1.Players.2.Face, .slice r1a0 r1n0 r1c0, .int .u16 r1.Score.1, .int .u16 r1.Score.2] ∧ D = fun F => (⟨p0b, [.int .u8 p0.player, .int .i64 p0.window, .int .u64 p0.sure.Frame, .int .u64 p0.sure.Seed, .int .i32 p0.sure.Players.1.X, .int .i32 p0.sure.Players.1.Y, .int .i32 p0.sure.Players.1.VX, .int .i32 p0.sure.Players.1.VY, .int .u8 p0.sure.Players.1.Health, .int .u8 p0.sure.Players.1.Cool, .int .u8 p0.sure.Players.1.Face, .int .i32 p0.sure.Players.2.X, .int .i32 p0.sure.Players.2.Y, .int .i32 p0.sure.Players.2.VX, .int .i32 p0.sure.Players.2.VY, .int .u8 p0.sure.Players.2.Health, .int .u8 p0.sure.Players.2.Cool, .int .u8 p0.sure.Players.2.Face, .slice p0a0 p0n0 p0c0, .int .u16 p0.sure.Score.1, .int .u16 p0.sure.Score.2, .slice p0a1 p0n1 p0c1, .pointer (some ⟨p0_4b, 0, none⟩), .pointer (some ⟨p0_5b, 0, none⟩)], p0t, (0, 0)⟩ :: (p0B0 ++ (p0B1 ++ (⟨p0_4b, [.int .u64 p0_4.first_, .slice p0_4a0 p0_4n0 p0_4c0, .int .u8 p0_4.last], p0_4t, (0, 0)⟩ :: (p0_4B0 ++ (⟨p0_5b, ([.int .i64 r0.size] ++ flat cg_T_ring_place r0g0), p0_5t, (0, 0)⟩ :: (r0P0 ++ (r1B0 ++ F))))))))) := by
  unfold m_rollback_Engine_Shown at h
  refine sp_of_wc Tryd.func11 rfl Tryd.ntmps11 rfl rfl (fun w0 hR => ?_)
  obtain ⟨G0S, G1S⟩ := hR
  refine wc_seq (wc_region ?_)
  refine wl_alloc tt_ok rfl rfl (fun b2 => ?_)
  refine wl_nil (wx_then (wc_seq (wc_seq (wc_region ?_))))
  refine wl_pure tt_ok rfl rfl ?_
  replace h := bsome h; obtain ⟨v7, x7, h⟩ := h
  refine wl_cq Tryd.call30 rfl rfl rfl (q_rd (k_rollback_Engine_is (p0 := p0) (p0_4 := p0_4) (p0_5 := p0_5) p0N0 p0V0 p0N1 p0V1 p0_4N0 p0_4V0 p0_5G0 p0_5A0 x7) (pCons (Sel.sc Sel.hc) (pApp (Sel.sc Sel.ha) (pApp (Sel.sc Sel.ha) (pCons (Sel.sc Sel.hc) (pApp (Sel.sc Sel.ha) (pCons (Sel.sc Sel.hc) (pApp (Sel.sc Sel.ha) pNil))))))) (fun _ _ => trivial)) rfl ?_
  refine wl_pure (v := .bool (!v7)) tt_ok rfl rfl ?_
  refine wl_nil (wx_then ?_)
  refine wc_cond rfl (fun hc => ?_) (fun hc => ?_)
  · replace h := ct hc h
    refine wc_seq (wc_region ?_)
    refine wl_pure (v := .agg #[.int .u64 (0 : Int), .int .u64 (0 : Int), .int .i32 (0 : Int), .int .i32 (0 : Int), .int .i32 (0 : Int), .int .i32 (0 : Int), .int .u8 (0 : Int), .int .u8 (0 : Int), .int .u8 (0 : Int), .int .i32 (0 : Int), .int .i32 (0 : Int), .int .i32 (0 : Int), .int .i32 (0 : Int), .int .u8 (0 : Int), .int .u8 (0 : Int), .int .u8 (0 : Int), .slice none 0 0, .int .u16 (0 : Int), .int .u16 (0 : Int)]) tt_ok rfl rfl ?_
    apply wl_store tt_ok; rfl; exact Upd.here; rfl; rfl; rfl; rfl; rfl; rfl
    refine wl_nil (wx_then (wc_ret (wx_then_ret ?_)))
    simp only [Option.some.injEq, Prod.mk.injEq] at h
    obtain ⟨rfl, rfl⟩ := h
    exact wx_spD tt_ok (.inl rfl) Tryd.results11 (Res.cell rfl (List.Mem.head _) rfl Res.nil) ⟨p0_5g0, p0_5P0, none, 0, 0, [], p0_5G0, p0_5A0, rfl, Own.zero, rfl, rfl⟩ (fun F => by simp) (pSub (pCons (Sel.sc Sel.hc) (pApp (Sel.sc Sel.ha) (pApp (Sel.sc Sel.ha) (pCons (Sel.sc Sel.hc) (pApp (Sel.sc Sel.ha) (pCons (Sel.sc Sel.hc) (pApp (Sel.sc Sel.ha) (pNo pNil)))))))))
  replace h := cf hc h
  refine wc_skip (wx_then (wc_seq (wc_region ?_)))
  iterate 2 refine wl_pure tt_ok rfl rfl ?_
  refine wl_pure (v := .pointer (some ⟨p0b, 23, none⟩)) tt_ok rfl rfl ?_
  refine wl_val (v := .pointer (some ⟨p0_5b, 0, none⟩)) (val_load tt_ok rfl (List.Mem.tail _ (List.Mem.head _)) rfl) rfl ?_
  replace h := bsome h; obtain ⟨⟨v15_0, v15_1⟩, x15, h⟩ := h; try dsimp only at h
  refine wl_cs Tryd.call32 rfl rfl rfl (s_sp (k_ring_Ring_Newest (p0 := p0_5) p0_5G0 p0_5A0 x15) (pCons (Sel.sc (Sel.sc (Sel.sa (Sel.sa (Sel.sc (Sel.sa Sel.hc)))))) (pApp (Sel.sc (Sel.sc (Sel.sa (Sel.sa (Sel.sc (Sel.sa Sel.ha)))))) pNil)) (fun _ _ => trivial)) rfl ?_
  rintro _ _ ⟨_, ⟨v15_0a0, v15_0n0, v15_0c0, v15_0B0, v15_0N0, v15_0V0, rfl, rfl⟩, rfl⟩
  iterate 3 refine wl_pure tt_ok rfl rfl ?_
  refine wl_alloc tt_ok rfl rfl (fun b3 => ?_)
  apply wl_store tt_ok; rfl; exact Upd.here; rfl; rfl; rfl; rfl; rfl; rfl
  refine wl_pure tt_ok rfl rfl ?_
  refine wl_nil (wx_then (wc_seq (wc_region ?_)))
  refine wl_pure tt_ok rfl rfl ?_
  refine wl_val (v := .agg #[.int .u64 v15_0.Frame, .int .u64 v15_0.Seed, .int .i32 v15_0.Players.1.X, .int .i32 v15_0.Players.1.Y, .int .i32 v15_0.Players.1.VX, .int .i32 v15_0.Players.1.VY, .int .u8 v15_0.Players.1.Health, .int .u8 v15_0.Players.1.Cool, .int .u8 v15_0.Players.1.Face, .int .i32 v15_0.Players.2.X, .int .i32 v15_0.Players.2.Y, .int .i32 v15_0.Players.2.VX, .int .i32 v15_0.Players.2.VY, .int .u8 v15_0.Players.2.Health, .int .u8 v15_0.Players.2.Cool, .int .u8 v15_0.Players.2.Face, .slice v15_0a0 v15_0n0 v15_0c0, .int .u16 v15_0.Score.1, .int .u16 v15_0.Score.2]) (val_load tt_ok rfl (List.Mem.head _) rfl) rfl ?_
  refine wl_inl Tryd.call33 rfl rfl rfl Tryd.func33 rfl Tryd.ntmps33 rfl rfl rfl ?_
  refine wc_seq (wc_region ?_)
  refine wl_box rfl rfl rfl (fun b100002 => ?_)
  refine wl_box rfl rfl rfl (fun b100003 => ?_)
  refine wl_pure tt_ok rfl rfl ?_
  refine wl_nil (wx_then (wc_seq (wc_region ?_)))
  iterate 2 refine wl_pure tt_ok rfl rfl ?_
  refine wl_nil (wx_then (wc_ret ?_))
  refine wx_inl (v := .func (.func 52) #[] #[.pointer (some ⟨b100003, 0, none⟩), .pointer (some ⟨b100002, 0, none⟩)]) tt_ok (.inl rfl) Tryd.results33 (Res.tmp rfl Res.nil) rfl ?_
  refine wl_pure tt_ok rfl rfl ?_
  refine wl_nil (wx_then (wc_seq (wc_block ?_)))
  replace h := bsome h; obtain ⟨⟨l17_p0_5_f0, l17_p0_5_f1, l17_n3_f0, l17_n3_f1, l17_n3_f2, l17_n3_f3, l17_n3_f4, l17_n100003_f0, l17_n100003_f1, l17_n100003_f2, l17_n100003_f3, l17_n100003_f4⟩, h, hl17⟩ := h; try dsimp only at hl17
  refine wc_loop (fun m E L => ∃ (j17_p0_5_f0 : Int) (j17_p0_5_f1 : (Arr T_ring_place 14)) (j17_n3_f0 : Int) (j17_n3_f1 : Int) (j17_n3_f2 : (T_api_Player × T_api_Player)) (j17_n3_f3 : (List T_api_Shot)) (j17_n3_f4 : (Int × Int)) (j17_n100003_f0 : Int) (j17_n100003_f1 : Int) (j17_n100003_f2 : (T_api_Player × T_api_Player)) (j17_n100003_f3 : (List T_api_Shot)) (j17_n100003_f4 : (Int × Int)) (j17_p0_5_f1g0 : List (T_ring_place × G)) (j17_p0_5_f1P0 : List Blk) (j17_n3_f3a0 : Option Addr) (j17_n3_f3n0 : Nat) (j17_n3_f3c0 : Nat) (j17_n3_f3B0 : List Blk) (j17_n100003_f3a0 : Option Addr) (j17_n100003_f3n0 : Nat) (j17_n100003_f3c0 : Nat), m_rollback_Engine_Shown_L16 F p0 p0_4 m j17_p0_5_f0 j17_p0_5_f1 j17_n3_f0 j17_n3_f1 j17_n3_f2 j17_n3_f3 j17_n3_f4 j17_n100003_f0 j17_n100003_f1 j17_n100003_f2 j17_n100003_f3 j17_n100003_f4 = some (l17_p0_5_f0, l17_p0_5_f1, l17_n3_f0, l17_n3_f1, l17_n3_f2, l17_n3_f3, l17_n3_f4, l17_n100003_f0, l17_n100003_f1, l17_n100003_f2, l17_n100003_f3, l17_n100003_f4) ∧ j17_p0_5_f1.1 = unG j17_p0_5_f1g0 ∧ AllP sh_T_ring_place c_T_api_Shot j17_p0_5_f1P0 j17_p0_5_f1g0 ∧ j17_n3_f3n0 = j17_n3_f3.length ∧ Own 80 6 j17_n3_f3a0 j17_n3_f3n0 j17_n3_f3c0 (flat c_T_api_Shot j17_n3_f3) j17_n3_f3B0 ∧ j17_n100003_f3n0 = j17_n100003_f3.length ∧ j17_n100003_f3n0 ≤ j17_n100003_f3c0 ∧ Rds w0 (ids (⟨p0b, [.int .u8 p0.player, .int .i64 p0.window, .int .u64 p0.sure.Frame, .int .u64 p0.sure.Seed, .int .i32 p0.sure.Players.1.X, .int .i32 p0.sure.Players.1.Y, .int .i32 p0.sure.Players.1.VX, .int .i32 p0.sure.Players.1.VY, .int .u8 p0.sure.Players.1.Health, .int .u8 p0.sure.Players.1.Cool, .int .u8 p0.sure.Players.1.Face, .int .i32 p0.sure.Players.2.X, .int .i32 p0.sure.Players.2.Y, .int .i32 p0.sure.Players.2.VX, .int .i32 p0.sure.Players.2.VY, .int .u8 p0.sure.Players.2.Health, .int .u8 p0.sure.Players.2.Cool, .int .u8 p0.sure.Players.2.Face, .slice p0a0 p0n0 p0c0, .int .u16 p0.sure.Score.1, .int .u16 p0.sure.Score.2, .slice p0a1 p0n1 p0c1, .pointer (some ⟨p0_4b, 0, none⟩), .pointer (some ⟨p0_5b, 0, none⟩)], p0t, (0, 0)⟩ :: (p0B0 ++ (p0B1 ++ (⟨p0_4b, [.int .u64 p0_4.first_, .slice p0_4a0 p0_4n0 p0_4c0, .int .u8 p0_4.last], p0_4t, (0, 0)⟩ :: (p0_4B0 ++ (⟨p0_5b, ([.int .i64 p0_5.size] ++ flat cg_T_ring_place p0_5g0), p0_5t, (0, 0)⟩ :: (p0_5P0 ++ [])))))))) j17_n3_f3B0 j17_n100003_f3a0 (flat c_T_api_Shot j17_n100003_f3) ∧ (j17_n100003_f3a0 = none → j17_n100003_f3c0 = 0) ∧ E = [(0, .pointer (some ⟨p0b, 0, none⟩)), (2, .pointer (some ⟨b2, 0, none⟩)), (3, .pointer (some ⟨b3, 0, none⟩)), (5, .func (.func 52) #[] #[.pointer (some ⟨b100003, 0, none⟩), .pointer (some ⟨b100002, 0, none⟩)])] ∧ L = (⟨p0b, [.int .u8 p0.player, .int .i64 p0.window, .int .u64 p0.sure.Frame, .int .u64 p0.sure.Seed, .int .i32 p0.sure.Players.1.X, .int .i32 p0.sure.Players.1.Y, .int .i32 p0.sure.Players.1.VX, .int .i32 p0.sure.Players.1.VY, .int .u8 p0.sure.Players.1.Health, .int .u8 p0.sure.Players.1.Cool, .int .u8 p0.sure.Players.1.Face, .int .i32 p0.sure.Players.2.X, .int .i32 p0.sure.Players.2.Y, .int .i32 p0.sure.Players.2.VX, .int .i32 p0.sure.Players.2.VY, .int .u8 p0.sure.Players.2.Health, .int .u8 p0.sure.Players.2.Cool, .int .u8 p0.sure.Players.2.Face, .slice p0a0 p0n0 p0c0, .int .u16 p0.sure.Score.1, .int .u16 p0.sure.Score.2, .slice p0a1 p0n1 p0c1, .pointer (some ⟨p0_4b, 0, none⟩), .pointer (some ⟨p0_5b, 0, none⟩)], p0t, (0, 0)⟩ :: (⟨p0_4b, [.int .u64 p0_4.first_, .slice p0_4a0 p0_4n0 p0_4c0, .int .u8 p0_4.last], p0_4t, (0, 0)⟩ :: (⟨p0_5b, ([.int .i64 j17_p0_5_f0] ++ flat cg_T_ring_place j17_p0_5_f1g0), p0_5t, (0, 0)⟩ :: (⟨b2, [.int .u64 (0 : Int), .int .u64 (0 : Int), .int .i32 (0 : Int), .int .i32 (0 : Int), .int .i32 (0 : Int), .int .i32 (0 : Int), .int .u8 (0 : Int), .int .u8 (0 : Int), .int .u8 (0 : Int), .int .i32 (0 : Int), .int .i32 (0 : Int), .int .i32 (0 : Int), .int .i32 (0 : Int), .int .u8 (0 : Int), .int .u8 (0 : Int), .int .u8 (0 : Int), .slice none 0 0, .int .u16 (0 : Int), .int .u16 (0 : Int)], 36, (0, 0)⟩ :: (⟨b3, [.int .u64 j17_n3_f0, .int .u64 j17_n3_f1, .int .i32 j17_n3_f2.1.X, .int .i32 j17_n3_f2.1.Y, .int .i32 j17_n3_f2.1.VX, .int .i32 j17_n3_f2.1.VY, .int .u8 j17_n3_f2.1.Health, .int .u8 j17_n3_f2.1.Cool, .int .u8 j17_n3_f2.1.Face, .int .i32 j17_n3_f2.2.X, .int .i32 j17_n3_f2.2.Y, .int .i32 j17_n3_f2.2.VX, .int .i32 j17_n3_f2.2.VY, .int .u8 j17_n3_f2.2.Health, .int .u8 j17_n3_f2.2.Cool, .int .u8 j17_n3_f2.2.Face, .slice j17_n3_f3a0 j17_n3_f3n0 j17_n3_f3c0, .int .u16 j17_n3_f4.1, .int .u16 j17_n3_f4.2], 36, (0, 0)⟩ :: (⟨b100003, [.int .u64 j17_n100003_f0, .int .u64 j17_n100003_f1, .int .i32 j17_n100003_f2.1.X, .int .i32 j17_n100003_f2.1.Y, .int .i32 j17_n100003_f2.1.VX, .int .i32 j17_n100003_f2.1.VY, .int .u8 j17_n100003_f2.1.Health, .int .u8 j17_n100003_f2.1.Cool, .int .u8 j17_n100003_f2.1.Face, .int .i32 j17_n100003_f2.2.X, .int .i32 j17_n100003_f2.2.Y, .int .i32 j17_n100003_f2.2.VX, .int .i32 j17_n100003_f2.2.VY, .int .u8 j17_n100003_f2.2.Health, .int .u8 j17_n100003_f2.2.Cool, .int .u8 j17_n100003_f2.2.Face, .slice j17_n100003_f3a0 j17_n100003_f3n0 j17_n100003_f3c0, .int .u16 j17_n100003_f4.1, .int .u16 j17_n100003_f4.2], 36, (0, 0)⟩ :: (⟨b100002, [.pointer (some ⟨p0b, 0, none⟩)], 27, (0, 0)⟩ :: (p0B0 ++ (p0B1 ++ (p0_4B0 ++ (j17_p0_5_f1P0 ++ (j17_n3_f3B0 ++ []))))))))))))) F ⟨p0_5.size, p0_5.places, v15_0.Frame, v15_0.Seed, v15_0.Players, v15_0.Shots, v15_0.Score, v15_0.Frame, v15_0.Seed, v15_0.Players, v15_0.Shots, v15_0.Score, p0_5g0, p0_5P0, v15_0a0, v15_0n0, v15_0c0, v15_0B0, v15_0a0, v15_0n0, v15_0c0, h, p0_5G0, p0_5A0, v15_0N0, v15_0V0, v15_0N0, (vec_cap v15_0V0), (Rds.of_vec v15_0V0), (own_Z v15_0V0), rfl, rfl⟩ (agree_cons rfl (agree_cons rfl (agree_cons rfl (agree_cons rfl agree_nil)))) (pSub (pCons (Sel.sc (Sel.sc (Sel.sc (Sel.sc (Sel.sa (Sel.sa (Sel.sc Sel.hc))))))) (pCons (Sel.sc (Sel.sc (Sel.sc (Sel.sc (Sel.sa (Sel.sa (Sel.sc (Sel.sa (Sel.sa Sel.hc))))))))) (pCons (Sel.sc (Sel.sc (Sel.sc Sel.hc))) (pCons (Sel.sc (Sel.sc (Sel.sc (Sel.sa (Sel.sa Sel.hc))))) (pCons (Sel.sc (Sel.sc Sel.hc)) (pCons Sel.hc (pCons Sel.hc (pApp (Sel.sa (Sel.sa Sel.ha)) (pApp (Sel.sa (Sel.sa Sel.ha)) (pApp (Sel.sa (Sel.sa Sel.ha)) (pApp Sel.ha (pApp Sel.ha pNil))))))))))))) ?_
  clear h
  rintro m17 _ _ ⟨j17_p0_5_f0, j17_p0_5_f1, j17_n3_f0, j17_n3_f1, j17_n3_f2, j17_n3_f3, j17_n3_f4, j17_n100003_f0, j17_n100003_f1, j17_n100003_f2, j17_n100003_f3, j17_n100003_f4, j17_p0_5_f1g0, j17_p0_5_f1P0, j17_n3_f3a0, j17_n3_f3n0, j17_n3_f3c0, j17_n3_f3B0, j17_n100003_f3a0, j17_n100003_f3n0, j17_n100003_f3c0, h, j17_p0_5_f1G0, j17_p0_5_f1A0, j17_n3_f3N0, j17_n3_f3V0, j17_n100003_f3N0, j17_n100003_f3H0, j17_n100003_f3S0, j17_n100003_f3Z0, rfl, rfl⟩
  rcases m17 with _ | m17
  · rw [m_rollback_Engine_Shown_L16.eq_1] at h; cases h
  rw [m_rollback_Engine_Shown_L16.eq_2] at h
  refine wc_seq (wc_seq ?_)
  refine wc_quiet (by kernel_rfl) (by kernel_rfl) ?_
  refine wq_pure (v := .pointer (some ⟨b3, 0, none⟩)) tt_ok rfl rfl ?_
  refine wq_val (v := .int .u64 j17_n3_f0) (val_load tt_ok rfl (List.Mem.tail _ (List.Mem.tail _ (List.Mem.tail _ (List.Mem.tail _ (List.Mem.head _))))) rfl) rfl ?_
  refine wq_pure tt_ok rfl rfl ?_
  replace h := bsome h; obtain ⟨v24, x24, h⟩ := h
  refine wq_cq Tryd.call17 rfl rfl rfl (q_rd (k_rollback_Engine_T (p0 := p0) (p0_4 := p0_4) (p0_5 := (T_ring_Ring.mk j17_p0_5_f0 j17_p0_5_f1)) p0N0 p0V0 p0N1 p0V1 p0_4N0 p0_4V0 j17_p0_5_f1G0 j17_p0_5_f1A0 x24) (pCons Sel.hc (pApp (Sel.sc (Sel.sc (Sel.sc (Sel.sc (Sel.sc (Sel.sc Sel.ha)))))) (pApp (Sel.sc (Sel.sc (Sel.sc (Sel.sc (Sel.sc (Sel.sc Sel.ha)))))) (pCons Sel.hc (pApp (Sel.sc (Sel.sc (Sel.sc (Sel.sc (Sel.sc Sel.ha))))) (pCons Sel.hc (pApp (Sel.sc (Sel.sc (Sel.sc (Sel.sc Sel.ha)))) pNil))))))) (fun _ _ => trivial)) rfl ?_
  refine wq_pure (v := .bool (decide (j17_n3_f0 < v24))) tt_ok rfl rfl ?_
  refine wq_nil ?_
  refine wx_then ?_
  refine wc_cond rfl (fun hc => ?_) (fun hc => ?_)
  · replace h := ct hc h
    refine wc_skip (wx_then (wc_block (wc_region ?_)))
    refine wl_pure tt_ok rfl rfl ?_
    refine wl_inl Tryd.call52 rfl rfl rfl Tryd.func52 rfl Tryd.ntmps52 rfl rfl rfl ?_
    refine wc_seq (wc_region ?_)
    refine wl_alloc tt_ok rfl rfl (fun b200002 => ?_)
    refine wl_nil (wx_then (wc_seq ?_))
    refine wc_k2 (Ls := (⟨b200002, [.int .u64 (0 : Int), .int .u64 (0 : Int), .int .i32 (0 : Int), .int .i32 (0 : Int), .int .i32 (0 : Int), .int .i32 (0 : Int), .int .u8 (0 : Int), .int .u8 (0 : Int), .int .u8 (0 : Int), .int .i32 (0 : Int), .int .i32 (0 : Int), .int .i32 (0 : Int), .int .i32 (0 : Int), .int .u8 (0 : Int), .int .u8 (0 : Int), .int .u8 (0 : Int), .slice none 0 0, .int .u16 (0 : Int), .int .u16 (0 : Int)], 36, (0, 0)⟩ :: (⟨p0b, [.int .u8 p0.player, .int .i64 p0.window, .int .u64 p0.sure.Frame, .int .u64 p0.sure.Seed, .int .i32 p0.sure.Players.1.X, .int .i32 p0.sure.Players.1.Y, .int .i32 p0.sure.Players.1.VX, .int .i32 p0.sure.Players.1.VY, .int .u8 p0.sure.Players.1.Health, .int .u8 p0.sure.Players.1.Cool, .int .u8 p0.sure.Players.1.Face, .int .i32 p0.sure.Players.2.X, .int .i32 p0.sure.Players.2.Y, .int .i32 p0.sure.Players.2.VX, .int .i32 p0.sure.Players.2.VY, .int .u8 p0.sure.Players.2.Health, .int .u8 p0.sure.Players.2.Cool, .int .u8 p0.sure.Players.2.Face, .slice p0a0 p0n0 p0c0, .int .u16 p0.sure.Score.1, .int .u16 p0.sure.Score.2, .slice p0a1 p0n1 p0c1, .pointer (some ⟨p0_4b, 0, none⟩), .pointer (some ⟨p0_5b, 0, none⟩)], p0t, (0, 0)⟩ :: (⟨p0_4b, [.int .u64 p0_4.first_, .slice p0_4a0 p0_4n0 p0_4c0, .int .u8 p0_4.last], p0_4t, (0, 0)⟩ :: (⟨p0_5b, ([.int .i64 j17_p0_5_f0] ++ flat cg_T_ring_place j17_p0_5_f1g0), p0_5t, (0, 0)⟩ :: (⟨b2, [.int .u64 (0 : Int), .int .u64 (0 : Int), .int .i32 (0 : Int), .int .i32 (0 : Int), .int .i32 (0 : Int), .int .i32 (0 : Int), .int .u8 (0 : Int), .int .u8 (0 : Int), .int .u8 (0 : Int), .int .i32 (0 : Int), .int .i32 (0 : Int), .int .i32 (0 : Int), .int .i32 (0 : Int), .int .u8 (0 : Int), .int .u8 (0 : Int), .int .u8 (0 : Int), .slice none 0 0, .int .u16 (0 : Int), .int .u16 (0 : Int)], 36, (0, 0)⟩ :: (⟨b3, [.int .u64 j17_n3_f0, .int .u64 j17_n3_f1, .int .i32 j17_n3_f2.1.X, .int .i32 j17_n3_f2.1.Y, .int .i32 j17_n3_f2.1.VX, .int .i32 j17_n3_f2.1.VY, .int .u8 j17_n3_f2.1.Health, .int .u8 j17_n3_f2.1.Cool, .int .u8 j17_n3_f2.1.Face, .int .i32 j17_n3_f2.2.X, .int .i32 j17_n3_f2.2.Y, .int .i32 j17_n3_f2.2.VX, .int .i32 j17_n3_f2.2.VY, .int .u8 j17_n3_f2.2.Health, .int .u8 j17_n3_f2.2.Cool, .int .u8 j17_n3_f2.2.Face, .slice j17_n3_f3a0 j17_n3_f3n0 j17_n3_f3c0, .int .u16 j17_n3_f4.1, .int .u16 j17_n3_f4.2], 36, (0, 0)⟩ :: (⟨b100003, [.int .u64 j17_n100003_f0, .int .u64 j17_n100003_f1, .int .i32 j17_n100003_f2.1.X, .int .i32 j17_n100003_f2.1.Y, .int .i32 j17_n100003_f2.1.VX, .int .i32 j17_n100003_f2.1.VY, .int .u8 j17_n100003_f2.1.Health, .int .u8 j17_n100003_f2.1.Cool, .int .u8 j17_n100003_f2.1.Face, .int .i32 j17_n100003_f2.2.X, .int .i32 j17_n100003_f2.2.Y, .int .i32 j17_n100003_f2.2.VX, .int .i32 j17_n100003_f2.2.VY, .int .u8 j17_n100003_f2.2.Health, .int .u8 j17_n100003_f2.2.Cool, .int .u8 j17_n100003_f2.2.Face, .slice j17_n100003_f3a0 j17_n100003_f3n0 j17_n100003_f3c0, .int .u16 j17_n100003_f4.1, .int .u16 j17_n100003_f4.2], 36, (0, 0)⟩ :: (⟨b100002, [.pointer (some ⟨p0b, 0, none⟩)], 27, (0, 0)⟩ :: (p0B0 ++ (p0B1 ++ (p0_4B0 ++ (j17_p0_5_f1P0 ++ (j17_n3_f3B0 ++ [])))))))))))))) [4, 5, 6] [5, 6] [0, 0, 0, 4, 14, 31, 63] [0, 1, 2, 3, 4, 5, 6] (by kernel_rfl) (by kernel_rfl) (by kernel_rfl) ?_
    refine k_val (v := .agg #[.int .u64 j17_n100003_f0, .int .u64 j17_n100003_f1, .int .i32 j17_n100003_f2.1.X, .int .i32 j17_n100003_f2.1.Y, .int .i32 j17_n100003_f2.1.VX, .int .i32 j17_n100003_f2.1.VY, .int .u8 j17_n100003_f2.1.Health, .int .u8 j17_n100003_f2.1.Cool, .int .u8 j17_n100003_f2.1.Face, .int .i32 j17_n100003_f2.2.X, .int .i32 j17_n100003_f2.2.Y, .int .i32 j17_n100003_f2.2.VX, .int .i32 j17_n100003_f2.2.VY, .int .u8 j17_n100003_f2.2.Health, .int .u8 j17_n100003_f2.2.Cool, .int .u8 j17_n100003_f2.2.Face, .slice j17_n100003_f3a0 j17_n100003_f3n0 j17_n100003_f3c0, .int .u16 j17_n100003_f4.1, .int .u16 j17_n100003_f4.2]) rfl rfl rfl (pSub (pCons Sel.hc (pCons Sel.hc (pCons Sel.hc (pCons Sel.hc (pCons Sel.hc (pCons Sel.hc (pCons Sel.hc (pCons Sel.hc (pApp Sel.ha (pApp Sel.ha (pApp Sel.ha (pApp Sel.ha (pApp Sel.ha pNil)))))))))))))) (val_load tt_ok rfl (List.Mem.tail _ (List.Mem.tail _ (List.Mem.tail _ (List.Mem.tail _ (List.Mem.tail _ (List.Mem.tail _ (List.Mem.head _))))))) rfl) rfl ?_
    refine k_val (v := .pointer (some ⟨p0b, 0, none⟩)) rfl rfl rfl (pSub (pCons Sel.hc (pCons Sel.hc (pCons Sel.hc (pCons Sel.hc (pCons Sel.hc (pCons Sel.hc (pCons Sel.hc (pCons Sel.hc (pApp Sel.ha (pApp Sel.ha (pApp Sel.ha (pApp Sel.ha (pApp Sel.ha pNil)))))))))))))) (val_load tt_ok rfl (List.Mem.tail _ (List.Mem.tail _ (List.Mem.tail _ (List.Mem.tail _ (List.Mem.tail _ (List.Mem.tail _ (List.Mem.tail _ (List.Mem.head _)))))))) rfl) rfl ?_
    refine k_val (v := .pointer (some ⟨b100003, 0, none⟩)) rfl rfl rfl (pSub (pCons Sel.hc (pCons Sel.hc (pCons Sel.hc (pCons Sel.hc (pCons Sel.hc (pCons Sel.hc (pCons Sel.hc (pCons Sel.hc (pApp Sel.ha (pApp Sel.ha (pApp Sel.ha (pApp Sel.ha (pApp Sel.ha pNil)))))))))))))) (stepV_ok tt_ok rfl) rfl ?_
    refine k_val (v := .int .u64 j17_n100003_f0) rfl rfl rfl (pSub (pCons Sel.hc (pCons Sel.hc (pCons Sel.hc (pCons Sel.hc (pCons Sel.hc (pCons Sel.hc (pCons Sel.hc (pCons Sel.hc (pApp Sel.ha (pApp Sel.ha (pApp Sel.ha (pApp Sel.ha (pApp Sel.ha pNil)))))))))))))) (val_load tt_ok rfl (List.Mem.tail _ (List.Mem.tail _ (List.Mem.tail _ (List.Mem.tail _ (List.Mem.tail _ (List.Mem.tail _ (List.Mem.head _))))))) rfl) rfl ?_
    replace h := bsome h; obtain ⟨v200007, x200007, h⟩ := h
    refine k_cq rfl rfl rfl Tryd.call42 rfl rfl rfl (q_rd (k_rollback_Engine_pair (p0 := p0) (p0_4 := p0_4) (p0_5 := (T_ring_Ring.mk j17_p0_5_f0 j17_p0_5_f1)) p0N0 p0V0 p0N1 p0V1 p0_4N0 p0_4V0 j17_p0_5_f1G0 j17_p0_5_f1A0 x200007) (pCons (Sel.sc Sel.hc) (pApp (Sel.sc (Sel.sc (Sel.sc (Sel.sc (Sel.sc (Sel.sc (Sel.sc Sel.ha))))))) (pApp (Sel.sc (Sel.sc (Sel.sc (Sel.sc (Sel.sc (Sel.sc (Sel.sc Sel.ha))))))) (pCons (Sel.sc Sel.hc) (pApp (Sel.sc (Sel.sc (Sel.sc (Sel.sc (Sel.sc (Sel.sc Sel.ha)))))) (pCons (Sel.sc Sel.hc) (pApp (Sel.sc (Sel.sc (Sel.sc (Sel.sc (Sel.sc Sel.ha))))) pNil))))))) (fun _ _ => trivial)) rfl (pSub (pCons Sel.hc (pCons Sel.hc (pCons Sel.hc (pCons Sel.hc (pCons Sel.hc (pCons Sel.hc (pCons Sel.hc (pCons Sel.hc (pApp Sel.ha (pApp Sel.ha (pApp Sel.ha (pApp Sel.ha (pApp Sel.ha pNil)))))))))))))) ?_
    replace h := bsome h; obtain ⟨v200008, x200008, h⟩ := h
    refine k_cs rfl rfl rfl Tryd.call38 rfl rfl rfl (s_sp (k_step_Step (p0 := (T_api_State.mk j17_n100003_f0 j17_n100003_f1 j17_n100003_f2 j17_n100003_f3 j17_n100003_f4)) j17_n100003_f3N0 j17_n100003_f3H0 x200008) pNil (fun w hI => ⟨(Rds.call j17_n100003_f3S0 pNil ⟨_, (Sel.sc (Sel.sc (Sel.sc (Sel.sc (Sel.sc (Sel.sc (Sel.sc (Sel.sc (Sel.sa (Sel.sa (Sel.sa (Sel.sa Sel.ha))))))))))))⟩) w hI, (Rds.call G0S pNil rsub_nil) w hI, (Rds.call G1S pNil rsub_nil) w hI⟩)) rfl (.inl rfl) ?_
    rintro _ _ ⟨_, ⟨v200008a0, v200008n0, v200008c0, v200008B0, v200008N0, v200008V0, rfl, rfl⟩, rfl⟩
    refine k_chg0 rfl rfl rfl (chg_store tt_ok rfl (Upd.right (Upd.there (Upd.there (Upd.there (Upd.there (Upd.there (Upd.there Upd.here))))))) rfl rfl rfl rfl rfl rfl) (.inl rfl) ?_
    rintro _ _ rfl
    refine k_end (by kernel_rfl) ?_
    refine wx_then (wc_seq ?_)
    refine wc_k2 (Ls := (v200008B0 ++ (⟨b200002, [.int .u64 (0 : Int), .int .u64 (0 : Int), .int .i32 (0 : Int), .int .i32 (0 : Int), .int .i32 (0 : Int), .int .i32 (0 : Int), .int .u8 (0 : Int), .int .u8 (0 : Int), .int .u8 (0 : Int), .int .i32 (0 : Int), .int .i32 (0 : Int), .int .i32 (0 : Int), .int .i32 (0 : Int), .int .u8 (0 : Int), .int .u8 (0 : Int), .int .u8 (0 : Int), .slice none 0 0, .int .u16 (0 : Int), .int .u16 (0 : Int)], 36, (0, 0)⟩ :: (⟨p0b, [.int .u8 p0.player, .int .i64 p0.window, .int .u64 p0.sure.Frame, .int .u64 p0.sure.Seed, .int .i32 p0.sure.Players.1.X, .int .i32 p0.sure.Players.1.Y, .int .i32 p0.sure.Players.1.VX, .int .i32 p0.sure.Players.1.VY, .int .u8 p0.sure.Players.1.Health, .int .u8 p0.sure.Players.1.Cool, .int .u8 p0.sure.Players.1.Face, .int .i32 p0.sure.Players.2.X, .int .i32 p0.sure.Players.2.Y, .int .i32 p0.sure.Players.2.VX, .int .i32 p0.sure.Players.2.VY, .int .u8 p0.sure.Players.2.Health, .int .u8 p0.sure.Players.2.Cool, .int .u8 p0.sure.Players.2.Face, .slice p0a0 p0n0 p0c0, .int .u16 p0.sure.Score.1, .int .u16 p0.sure.Score.2, .slice p0a1 p0n1 p0c1, .pointer (some ⟨p0_4b, 0, none⟩), .pointer (some ⟨p0_5b, 0, none⟩)], p0t, (0, 0)⟩ :: (⟨p0_4b, [.int .u64 p0_4.first_, .slice p0_4a0 p0_4n0 p0_4c0, .int .u8 p0_4.last], p0_4t, (0, 0)⟩ :: (⟨p0_5b, ([.int .i64 j17_p0_5_f0] ++ flat cg_T_ring_place j17_p0_5_f1g0), p0_5t, (0, 0)⟩ :: (⟨b2, [.int .u64 (0 : Int), .int .u64 (0 : Int), .int .i32 (0 : Int), .int .i32 (0 : Int), .int .i32 (0 : Int), .int .i32 (0 : Int), .int .u8 (0 : Int), .int .u8 (0 : Int), .int .u8 (0 : Int), .int .i32 (0 : Int), .int .i32 (0 : Int), .int .i32 (0 : Int), .int .i32 (0 : Int), .int .u8 (0 : Int), .int .u8 (0 : Int), .int .u8 (0 : Int), .slice none 0 0, .int .u16 (0 : Int), .int .u16 (0 : Int)], 36, (0, 0)⟩ :: (⟨b3, [.int .u64 j17_n3_f0, .int .u64 j17_n3_f1, .int .i32 j17_n3_f2.1.X, .int .i32 j17_n3_f2.1.Y, .int .i32 j17_n3_f2.1.VX, .int .i32 j17_n3_f2.1.VY, .int .u8 j17_n3_f2.1.Health, .int .u8 j17_n3_f2.1.Cool, .int .u8 j17_n3_f2.1.Face, .int .i32 j17_n3_f2.2.X, .int .i32 j17_n3_f2.2.Y, .int .i32 j17_n3_f2.2.VX, .int .i32 j17_n3_f2.2.VY, .int .u8 j17_n3_f2.2.Health, .int .u8 j17_n3_f2.2.Cool, .int .u8 j17_n3_f2.2.Face, .slice j17_n3_f3a0 j17_n3_f3n0 j17_n3_f3c0, .int .u16 j17_n3_f4.1, .int .u16 j17_n3_f4.2], 36, (0, 0)⟩ :: (⟨b100003, [.int .u64 v200008.Frame, .int .u64 v200008.Seed, .int .i32 v200008.Players.1.X, .int .i32 v200008.Players.1.Y, .int .i32 v200008.Players.1.VX, .int .i32 v200008.Players.1.VY, .int .u8 v200008.Players.1.Health, .int .u8 v200008.Players.1.Cool, .int .u8 v200008.Players.1.Face, .int .i32 v200008.Players.2.X, .int .i32 v200008.Players.2.Y, .int .i32 v200008.Players.2.VX, .int .i32 v200008.Players.2.VY, .int .u8 v200008.Players.2.Health, .int .u8 v200008.Players.2.Cool, .int .u8 v200008.Players.2.Face, .slice v200008a0 v200008n0 v200008c0, .int .u16 v200008.Score.1, .int .u16 v200008.Score.2], 36, (0, 0)⟩ :: (⟨b100002, [.pointer (some ⟨p0b, 0, none⟩)], 27, (0, 0)⟩ :: (p0B0 ++ (p0B1 ++ (p0_4B0 ++ (j17_p0_5_f1P0 ++ (j17_n3_f3B0 ++ []))))))))))))))) [5] [5] [0, 1, 3, 7, 0, 31] [0, 1, 2, 3, 4, 5] (by kernel_rfl) (by kernel_rfl) (by kernel_rfl) ?_
    refine k_val (v := .pointer (some ⟨p0b, 0, none⟩)) rfl rfl rfl (pSub (pApp Sel.ha (pCons Sel.hc (pCons Sel.hc (pCons Sel.hc (pCons Sel.hc (pCons Sel.hc (pCons Sel.hc (pCons Sel.hc (pCons Sel.hc (pApp Sel.ha (pApp Sel.ha (pApp Sel.ha (pApp Sel.ha (pApp Sel.ha pNil))))))))))))))) (val_load tt_ok rfl (mR (List.Mem.tail _ (List.Mem.tail _ (List.Mem.tail _ (List.Mem.tail _ (List.Mem.tail _ (List.Mem.tail _ (List.Mem.tail _ (List.Mem.head _))))))))) rfl) rfl ?_
    refine k_val rfl rfl rfl (pSub (pApp Sel.ha (pCons Sel.hc (pCons Sel.hc (pCons Sel.hc (pCons Sel.hc (pCons Sel.hc (pCons Sel.hc (pCons Sel.hc (pCons Sel.hc (pApp Sel.ha (pApp Sel.ha (pApp Sel.ha (pApp Sel.ha (pApp Sel.ha pNil))))))))))))))) (stepV_ok tt_ok rfl) rfl ?_
    refine k_val (v := .pointer (some ⟨p0b, 23, none⟩)) rfl rfl rfl (pSub (pApp Sel.ha (pCons Sel.hc (pCons Sel.hc (pCons Sel.hc (pCons Sel.hc (pCons Sel.hc (pCons Sel.hc (pCons Sel.hc (pCons Sel.hc (pApp Sel.ha (pApp Sel.ha (pApp Sel.ha (pApp Sel.ha (pApp Sel.ha pNil))))))))))))))) (stepV_ok tt_ok rfl) rfl ?_
    refine k_val (v := .pointer (some ⟨p0_5b, 0, none⟩)) rfl rfl rfl (pSub (pApp Sel.ha (pCons Sel.hc (pCons Sel.hc (pCons Sel.hc (pCons Sel.hc (pCons Sel.hc (pCons Sel.hc (pCons Sel.hc (pCons Sel.hc (pApp Sel.ha (pApp Sel.ha (pApp Sel.ha (pApp Sel.ha (pApp Sel.ha pNil))))))))))))))) (val_load tt_ok rfl (mR (List.Mem.tail _ (List.Mem.head _))) rfl) rfl ?_
    refine k_val (v := .agg #[.int .u64 v200008.Frame, .int .u64 v200008.Seed, .int .i32 v200008.Players.1.X, .int .i32 v200008.Players.1.Y, .int .i32 v200008.Players.1.VX, .int .i32 v200008.Players.1.VY, .int .u8 v200008.Players.1.Health, .int .u8 v200008.Players.1.Cool, .int .u8 v200008.Players.1.Face, .int .i32 v200008.Players.2.X, .int .i32 v200008.Players.2.Y, .int .i32 v200008.Players.2.VX, .int .i32 v200008.Players.2.VY, .int .u8 v200008.Players.2.Health, .int .u8 v200008.Players.2.Cool, .int .u8 v200008.Players.2.Face, .slice v200008a0 v200008n0 v200008c0, .int .u16 v200008.Score.1, .int .u16 v200008.Score.2]) rfl rfl rfl (pSub (pApp Sel.ha (pCons Sel.hc (pCons Sel.hc (pCons Sel.hc (pCons Sel.hc (pCons Sel.hc (pCons Sel.hc (pCons Sel.hc (pCons Sel.hc (pApp Sel.ha (pApp Sel.ha (pApp Sel.ha (pApp Sel.ha (pApp Sel.ha pNil))))))))))))))) (val_load tt_ok rfl (mR (List.Mem.tail _ (List.Mem.tail _ (List.Mem.tail _ (List.Mem.tail _ (List.Mem.tail _ (List.Mem.tail _ (List.Mem.head _)))))))) rfl) rfl ?_
    replace h := bsome h; obtain ⟨⟨o200014_0, v200014⟩, x200014, h⟩ := h; try dsimp only at h
    refine k_cs rfl rfl rfl Tryd.call29 rfl rfl rfl (s_sp (k_ring_Ring_Put (p0 := (T_ring_Ring.mk j17_p0_5_f0 j17_p0_5_f1)) (p1 := v200008) j17_p0_5_f1G0 j17_p0_5_f1A0 v200008N0 (vec_cap v200008V0) (own_Z v200008V0) x200014) (pCons (Sel.sa (Sel.sc (Sel.sc (Sel.sc Sel.hc)))) (pApp (Sel.sa (Sel.sc (Sel.sc (Sel.sc (Sel.sc (Sel.sc (Sel.sc (Sel.sc (Sel.sa (Sel.sa (Sel.sa Sel.ha))))))))))) pNil)) (fun w hI => ⟨(Rds.call (Rds.of_vec v200008V0) (pCons (Sel.sa (Sel.sc (Sel.sc (Sel.sc Sel.hc)))) (pApp (Sel.sa (Sel.sc (Sel.sc (Sel.sc (Sel.sc (Sel.sc (Sel.sc (Sel.sc (Sel.sa (Sel.sa (Sel.sa Sel.ha))))))))))) pNil)) ⟨_, Sel.ha⟩) w hI, (Rds.call G0S (pCons (Sel.sa (Sel.sc (Sel.sc (Sel.sc Sel.hc)))) (pApp (Sel.sa (Sel.sc (Sel.sc (Sel.sc (Sel.sc (Sel.sc (Sel.sc (Sel.sc (Sel.sa (Sel.sa (Sel.sa Sel.ha))))))))))) pNil)) rsub_nil) w hI, (Rds.call G1S (pCons (Sel.sa (Sel.sc (Sel.sc (Sel.sc Sel.hc)))) (pApp (Sel.sa (Sel.sc (Sel.sc (Sel.sc (Sel.sc (Sel.sc (Sel.sc (Sel.sc (Sel.sa (Sel.sa (Sel.sa Sel.ha))))))))))) pNil)) rsub_nil) w hI⟩)) rfl (.inl rfl) ?_
    rintro _ _ ⟨_, ⟨o200014_0g0, o200014_0P0, o200014_0G0, o200014_0A0, rfl, rfl⟩, rfl⟩
    refine k_end (by kernel_rfl) ?_
    refine wx_then (wc_seq (wc_region ?_))
    refine wl_val (v := .agg #[.int .u64 v200008.Frame, .int .u64 v200008.Seed, .int .i32 v200008.Players.1.X, .int .i32 v200008.Players.1.Y, .int .i32 v200008.Players.1.VX, .int .i32 v200008.Players.1.VY, .int .u8 v200008.Players.1.Health, .int .u8 v200008.Players.1.Cool, .int .u8 v200008.Players.1.Face, .int .i32 v200008.Players.2.X, .int .i32 v200008.Players.2.Y, .int .i32 v200008.Players.2.VX, .int .i32 v200008.Players.2.VY, .int .u8 v200008.Players.2.Health, .int .u8 v200008.Players.2.Cool, .int .u8 v200008.Players.2.Face, .slice v200008a0 v200008n0 v200008c0, .int .u16 v200008.Score.1, .int .u16 v200008.Score.2]) (val_load tt_ok rfl (List.Mem.tail _ (mR (mR (List.Mem.tail _ (List.Mem.tail _ (List.Mem.tail _ (List.Mem.tail _ (List.Mem.tail _ (List.Mem.head _))))))))) rfl) rfl ?_
    apply wl_store tt_ok; rfl; exact (Upd.there (Upd.right (Upd.right Upd.here))); rfl; rfl; rfl; rfl; rfl; rfl
    refine wl_nil (wx_then (wc_ret ?_))
    refine wx_inl (v := .agg #[.int .u64 v200008.Frame, .int .u64 v200008.Seed, .int .i32 v200008.Players.1.X, .int .i32 v200008.Players.1.Y, .int .i32 v200008.Players.1.VX, .int .i32 v200008.Players.1.VY, .int .u8 v200008.Players.1.Health, .int .u8 v200008.Players.1.Cool, .int .u8 v200008.Players.1.Face, .int .i32 v200008.Players.2.X, .int .i32 v200008.Players.2.Y, .int .i32 v200008.Players.2.VX, .int .i32 v200008.Players.2.VY, .int .u8 v200008.Players.2.Health, .int .u8 v200008.Players.2.Cool, .int .u8 v200008.Players.2.Face, .slice v200008a0 v200008n0 v200008c0, .int .u16 v200008.Score.1, .int .u16 v200008.Score.2]) tt_ok (.inl rfl) Tryd.results52 (Res.cell rfl (List.Mem.tail _ (mR (mR (List.Mem.head _)))) rfl Res.nil) rfl ?_
    apply wl_store tt_ok; rfl; exact (Upd.there (Upd.right (Upd.right (Upd.there (Upd.there (Upd.there (Upd.there Upd.here))))))); rfl; rfl; rfl; rfl; rfl; rfl
    refine wl_nil (wx_block ?_)
    exact wx_round m17 (Nat.lt_succ_self m17) ⟨o200014_0.size, o200014_0.places, v200008.Frame, v200008.Seed, v200008.Players, v200008.Shots, v200008.Score, v200008.Frame, v200008.Seed, v200008.Players, v200008.Shots, v200008.Score, o200014_0g0, o200014_0P0, v200008a0, v200008n0, v200008c0, v200008B0, v200008a0, v200008n0, v200008c0, h, o200014_0G0, o200014_0A0, v200008N0, v200008V0, v200008N0, (vec_cap v200008V0), (Rds.of_vec v200008V0), (own_Z v200008V0), rfl, rfl⟩ (agree_cons rfl (agree_cons rfl (agree_cons rfl (agree_cons rfl agree_nil)))) (pSub (pCons (Sel.sc (Sel.sa (Sel.sa (Sel.sc Sel.hc)))) (pCons (Sel.sc (Sel.sa (Sel.sa (Sel.sc Sel.hc)))) (pCons Sel.hc (pCons (Sel.sa (Sel.sa (Sel.sc Sel.hc))) (pCons (Sel.sa (Sel.sa (Sel.sc Sel.hc))) (pCons (Sel.sa (Sel.sa (Sel.sc Sel.hc))) (pCons (Sel.sa (Sel.sa (Sel.sc Sel.hc))) (pApp (Sel.sa (Sel.sa (Sel.sc Sel.ha))) (pApp (Sel.sa (Sel.sa (Sel.sc Sel.ha))) (pApp (Sel.sa (Sel.sa (Sel.sc Sel.ha))) (pApp Sel.ha (pApp Sel.ha pNil)))))))))))))
  replace h := cf hc h
  refine wc_exit (wx_then_exit ?_)
  simp only [Option.some.injEq, Prod.mk.injEq] at h
  obtain ⟨rfl, rfl, rfl, rfl, rfl, rfl, rfl, rfl, rfl, rfl, rfl, rfl⟩ := h
  have h := hl17; clear hl17; try dsimp only [orE_l, orE_r] at h
  refine wx_then_exit (wx_block_exit (wx_then (wc_seq (wc_region ?_))))
  refine wl_val (v := .agg #[.int .u64 j17_n3_f0, .int .u64 j17_n3_f1, .int .i32 j17_n3_f2.1.X, .int .i32 j17_n3_f2.1.Y, .int .i32 j17_n3_f2.1.VX, .int .i32 j17_n3_f2.1.VY, .int .u8 j17_n3_f2.1.Health, .int .u8 j17_n3_f2.1.Cool, .int .u8 j17_n3_f2.1.Face, .int .i32 j17_n3_f2.2.X, .int .i32 j17_n3_f2.2.Y, .int .i32 j17_n3_f2.2.VX, .int .i32 j17_n3_f2.2.VY, .int .u8 j17_n3_f2.2.Health, .int .u8 j17_n3_f2.2.Cool, .int .u8 j17_n3_f2.2.Face, .slice j17_n3_f3a0 j17_n3_f3n0 j17_n3_f3c0, .int .u16 j17_n3_f4.1, .int .u16 j17_n3_f4.2]) (val_load tt_ok rfl (List.Mem.tail _ (List.Mem.tail _ (List.Mem.tail _ (List.Mem.tail _ (List.Mem.head _))))) rfl) rfl ?_
  replace h := bsome h; obtain ⟨v29, x29, h⟩ := h
  refine wl_cs Tryd.call26 rfl rfl rfl (s_sp (k_state_Copy (p0 := (T_api_State.mk j17_n3_f0 j17_n3_f1 j17_n3_f2 j17_n3_f3 j17_n3_f4)) j17_n3_f3N0 (vec_cap j17_n3_f3V0) x29) pNil (Rds.call (Rds.of_vec j17_n3_f3V0) pNil ⟨_, (Sel.sc (Sel.sc (Sel.sc (Sel.sc (Sel.sc (Sel.sc (Sel.sc (Sel.sa (Sel.sa (Sel.sa (Sel.sa Sel.ha)))))))))))⟩)) rfl ?_
  rintro _ _ ⟨_, ⟨v29a0, v29n0, v29c0, v29B0, v29N0, v29V0, rfl, rfl⟩, rfl⟩
  apply wl_store tt_ok; rfl; exact (Upd.right (Upd.there (Upd.there (Upd.there Upd.here)))); rfl; rfl; rfl; rfl; rfl; rfl
  refine wl_nil (wx_then (wc_ret ?_))
  simp only [Option.some.injEq, Prod.mk.injEq] at h
  obtain ⟨rfl, rfl⟩ := h
  exact wx_spD tt_ok (.inl rfl) Tryd.results11 (Res.cell rfl (mR (List.Mem.tail _ (List.Mem.tail _ (List.Mem.tail _ (List.Mem.head _))))) rfl Res.nil) ⟨j17_p0_5_f1g0, j17_p0_5_f1P0, v29a0, v29n0, v29c0, v29B0, j17_p0_5_f1G0, j17_p0_5_f1A0, v29N0, v29V0, rfl, rfl⟩ (fun F => by simp) (pSub (pCons (Sel.sa Sel.hc) (pApp (Sel.sa (Sel.sc (Sel.sc (Sel.sc (Sel.sc (Sel.sc (Sel.sc Sel.ha))))))) (pApp (Sel.sa (Sel.sc (Sel.sc (Sel.sc (Sel.sc (Sel.sc (Sel.sc Sel.ha))))))) (pCons (Sel.sa Sel.hc) (pApp (Sel.sa (Sel.sc (Sel.sc (Sel.sc (Sel.sc (Sel.sc Sel.ha)))))) (pCons (Sel.sa Sel.hc) (pApp (Sel.sa (Sel.sc (Sel.sc (Sel.sc (Sel.sc Sel.ha))))) (pApp Sel.ha pNil)))))))))

theorem k_queue_Queue_Add {F : Nat} {p0 : T_queue_Queue} {p0b p0t : Nat} {p0a0 : Option Addr} {p0n0 : Nat} {p0c0 : Nat} {p0B0 : List Blk} {p1 : Int} {p2 : Int} {r0 : T_queue_Queue} {r1 : Int} (p0N0 : p0n0 = p0.l.length) (p0V0 : Own 40 1 p0a0 p0n0 p0c0 (flat (e1 .u8) p0.l) p0B0) (h : m_queue_Queue_Add F p0 p1 p2 = some (r0, r1)) :
    SpD Tryd.prog 36 [.pointer (some ⟨p0b, 0, none⟩), .int .u64 p1, .int .u8 p2] (⟨p0b, [.int .u64 p0.first_, .slice p0a0 p0n0 p0c0, .int .u8 p0.last], p0t, (0, 0)⟩ :: (p0B0 ++ [])) (fun w => True) (fun v D => ∃ (r0a0 : Option Addr) (r0n0 : Nat) (r0c0 : Nat) (r0B0 : List Blk), r0n0 = r0.l.length ∧ Own 40 1 r0a0 r0n0 r0c0 (flat (e1 .u8) r0.l) r0B0 ∧ v = .int .i64 r1 ∧ D = fun F => (⟨p0b, [.int .u64 r0.first_, .slice r0a0 r0n0 r0c0, .int .u8 r0.last], p0t, (0, 0)⟩ :: (r0B0 ++ F))) := by
  unfold m_queue_Queue_Add at h
  refine sp_of_wc Tryd.func36 rfl Tryd.ntmps36 rfl rfl (fun w0 hR => ?_)
  refine wc_seq (wc_region ?_)
  refine wl_pure tt_ok rfl rfl ?_
  refine wl_nil (wx_then (wc_seq (wc_block (wc_seq (wc_region ?_)))))
  refine wl_pure tt_ok rfl rfl ?_
  refine wl_pure (v := .bool false) tt_ok rfl rfl ?_
  refine wl_pure tt_ok rfl rfl ?_
  refine wl_nil (wx_then ?_)
  refine wc_cond_false rfl ?_
  refine wc_seq (wc_region ?_)
  refine wl_pure tt_ok rfl rfl ?_
  replace h := bsome h; obtain ⟨v14, x14, h⟩ := h
  refine wl_cq Tryd.call31 rfl rfl rfl (q_pf (k_input_Legal x14) (fun _ _ => trivial)) rfl ?_
  refine wl_pure (v := .bool (!v14)) tt_ok rfl rfl ?_
  refine wl_pure tt_ok rfl rfl ?_
  refine wl_nil (wx_then ?_)
  refine wc_cond rfl (fun hc => ?_) (fun hc => ?_)
  · replace h := ct hc h
    refine wc_seq (wc_region ?_)
    refine wl_pure tt_ok rfl rfl ?_
    refine wl_nil (wx_then (wc_ret (wx_block_ret (wx_then_ret ?_))))
    simp only [Option.some.injEq, Prod.mk.injEq] at h
    obtain ⟨rfl, rfl⟩ := h
    exact wx_spD tt_ok (.inl rfl) Tryd.results36 (Res.tmp rfl Res.nil) ⟨p0a0, p0n0, p0c0, p0B0, p0N0, p0V0, rfl, rfl⟩ (fun F => by simp) (pSub (pCons Sel.hc (pApp Sel.ha pNil)))
  replace h := cf hc h
  refine wc_seq (wc_region ?_)
  iterate 3 refine wl_pure tt_ok rfl rfl ?_
  refine wl_pure (v := .pointer (some ⟨p0b, 0, none⟩)) tt_ok rfl rfl ?_
  refine wl_val (v := .int .u64 p0.first_) (val_load tt_ok rfl (List.Mem.head _) rfl) rfl ?_
  refine wl_pure (v := .bool (decide (p1 < p0.first_))) tt_ok rfl rfl ?_
  refine wl_pure tt_ok rfl rfl ?_
  refine wl_nil (wx_then ?_)
  refine wc_cond rfl (fun hc => ?_) (fun hc => ?_)
  · replace h := ct hc h
    refine wc_seq (wc_region ?_)
    refine wl_pure tt_ok rfl rfl ?_
    refine wl_nil (wx_then (wc_ret (wx_block_ret (wx_then_ret ?_))))
    simp only [Option.some.injEq, Prod.mk.injEq] at h
    obtain ⟨rfl, rfl⟩ := h
    exact wx_spD tt_ok (.inl rfl) Tryd.results36 (Res.tmp rfl Res.nil) ⟨p0a0, p0n0, p0c0, p0B0, p0N0, p0V0, rfl, rfl⟩ (fun F => by simp) (pSub (pCons Sel.hc (pApp Sel.ha pNil)))
  replace h := cf hc h
  refine wc_skip (wx_block (wx_then (wc_seq (wc_seq (wc_region ?_)))))
  iterate 2 refine wl_pure tt_ok rfl rfl ?_
  replace h := bsome h; obtain ⟨⟨v26_0, v26_1⟩, x26, h⟩ := h; try dsimp only at h
  refine wl_cq Tryd.call53 rfl rfl rfl (q_rd (k_queue_Queue_At (p0 := p0) p0N0 p0V0 x26) (pCons Sel.hc (pApp Sel.ha pNil)) (fun _ _ => trivial)) rfl ?_
  iterate 5 refine wl_pure tt_ok rfl rfl ?_
  refine wl_nil (wx_then (wc_block (wc_seq (wc_region ?_))))
  iterate 2 refine wl_pure tt_ok rfl rfl ?_
  replace h := bsome h; obtain ⟨v35, h, hg35⟩ := h
  refine wl_split (t := 31) rfl (fun hc => ?_) (fun hc => ?_)
  · replace h := ct hc h
    refine wl_run rfl ?_
    refine wl_pure tt_ok rfl rfl ?_
    refine wl_run rfl ?_
    refine wl_pure tt_ok rfl rfl ?_
    refine wl_run rfl ?_
    refine wl_pure (v := .bool (v26_0 != p2)) tt_ok rfl rfl ?_
    simp only [Option.some.injEq, Prod.mk.injEq] at h
    obtain rfl := h
    have h := hg35; clear hg35
    refine wl_pure (v := .bool (v26_0 != p2)) tt_ok rfl rfl ?_
    refine wl_pure tt_ok rfl rfl ?_
    refine wl_nil (wx_then ?_)
    refine wc_cond rfl (fun hc => ?_) (fun hc => ?_)
    · replace h := ct hc h
      refine wc_seq (wc_region ?_)
      refine wl_pure tt_ok rfl rfl ?_
      refine wl_nil (wx_then (wc_ret (wx_block_ret (wx_then_ret ?_))))
      simp only [Option.some.injEq, Prod.mk.injEq] at h
      obtain ⟨rfl, rfl⟩ := h
      exact wx_spD tt_ok (.inl rfl) Tryd.results36 (Res.tmp rfl Res.nil) ⟨p0a0, p0n0, p0c0, p0B0, p0N0, p0V0, rfl, rfl⟩ (fun F => by simp) (pSub (pCons Sel.hc (pApp Sel.ha pNil)))
    replace h := cf hc h
    refine wc_seq (wc_region ?_)
    iterate 2 refine wl_pure tt_ok rfl rfl ?_
    refine wl_nil (wx_then ?_)
    refine wc_cond rfl (fun hc => ?_) (fun hc => ?_)
    · replace h := ct hc h
      refine wc_seq (wc_region ?_)
      refine wl_pure tt_ok rfl rfl ?_
      refine wl_nil (wx_then (wc_ret (wx_block_ret (wx_then_ret ?_))))
      simp only [Option.some.injEq, Prod.mk.injEq] at h
      obtain ⟨rfl, rfl⟩ := h
      exact wx_spD tt_ok (.inl rfl) Tryd.results36 (Res.tmp rfl Res.nil) ⟨p0a0, p0n0, p0c0, p0B0, p0N0, p0V0, rfl, rfl⟩ (fun F => by simp) (pSub (pCons Sel.hc (pApp Sel.ha pNil)))
    replace h := cf hc h
    refine wc_seq (wc_region ?_)
    iterate 2 refine wl_pure tt_ok rfl rfl ?_
    replace h := bsome h; obtain ⟨v41, x41, h⟩ := h
    refine wl_cq Tryd.call34 rfl rfl rfl (q_rd (k_queue_Queue_Known (p0 := p0) p0N0 p0V0 x41) (pCons Sel.hc (pApp Sel.ha pNil)) (fun _ _ => trivial)) rfl ?_
    refine wl_pure (v := .bool (decide (v41 < p1))) tt_ok rfl rfl ?_
    refine wl_pure tt_ok rfl rfl ?_
    replace h := bsome h; obtain ⟨v46, h, hg46⟩ := h
    refine wl_split (t := 43) rfl (fun hc => ?_) (fun hc => ?_)
    · replace h := ct hc h
      refine wl_skip rfl rfl ?_
      refine wl_skip rfl rfl ?_
      simp only [Option.some.injEq, Prod.mk.injEq] at h
      obtain rfl := h
      have h := hg46; clear hg46
      refine wl_pure (v := .bool true) tt_ok rfl rfl ?_
      refine wl_pure tt_ok rfl rfl ?_
      refine wl_nil (wx_then ?_)
      replace h := ct rfl h
      refine wc_cond_true rfl ?_
      refine wc_seq (wc_region ?_)
      refine wl_pure tt_ok rfl rfl ?_
      refine wl_nil (wx_then (wc_ret (wx_block_ret (wx_then_ret ?_))))
      simp only [Option.some.injEq, Prod.mk.injEq] at h
      obtain ⟨rfl, rfl⟩ := h
      exact wx_spD tt_ok (.inl rfl) Tryd.results36 (Res.tmp rfl Res.nil) ⟨p0a0, p0n0, p0c0, p0B0, p0N0, p0V0, rfl, rfl⟩ (fun F => by simp) (pSub (pCons Sel.hc (pApp Sel.ha pNil)))
    replace h := cf hc h
    refine wl_run rfl ?_
    refine wl_pure tt_ok rfl rfl ?_
    refine wl_run rfl ?_
    refine wl_pure (v := .bool (p1 == (18446744073709551615 : Int))) tt_ok rfl rfl ?_
    simp only [Option.some.injEq, Prod.mk.injEq] at h
    obtain rfl := h
    have h := hg46; clear hg46
    refine wl_pure (v := .bool (p1 == (18446744073709551615 : Int))) tt_ok rfl rfl ?_
    refine wl_pure tt_ok rfl rfl ?_
    refine wl_nil (wx_then ?_)
    refine wc_cond rfl (fun hc => ?_) (fun hc => ?_)
    · replace h := ct hc h
      refine wc_seq (wc_region ?_)
      refine wl_pure tt_ok rfl rfl ?_
      refine wl_nil (wx_then (wc_ret (wx_block_ret (wx_then_ret ?_))))
      simp only [Option.some.injEq, Prod.mk.injEq] at h
      obtain ⟨rfl, rfl⟩ := h
      exact wx_spD tt_ok (.inl rfl) Tryd.results36 (Res.tmp rfl Res.nil) ⟨p0a0, p0n0, p0c0, p0B0, p0N0, p0V0, rfl, rfl⟩ (fun F => by simp) (pSub (pCons Sel.hc (pApp Sel.ha pNil)))
    replace h := cf hc h
    refine wc_seq (wc_region ?_)
    iterate 2 refine wl_pure tt_ok rfl rfl ?_
    refine wl_pure (v := .pointer (some ⟨p0b, 1, none⟩)) tt_ok rfl rfl ?_
    refine wl_val (v := .slice p0a0 p0n0 p0c0) (val_load tt_ok rfl (List.Mem.head _) rfl) rfl ?_
    refine wl_val (v := .int .i64 (p0.l.length : Int)) (val_len tt_ok rfl rfl p0N0) rfl ?_
    refine wl_pure (v := .bool (decide ((24 : Int) ≤ (p0.l.length : Int)))) tt_ok rfl rfl ?_
    refine wl_pure tt_ok rfl rfl ?_
    refine wl_nil (wx_then ?_)
    refine wc_cond rfl (fun hc => ?_) (fun hc => ?_)
    · replace h := ct hc h
      refine wc_seq (wc_region ?_)
      refine wl_pure tt_ok rfl rfl ?_
      refine wl_nil (wx_then (wc_ret (wx_block_ret (wx_then_ret ?_))))
      simp only [Option.some.injEq, Prod.mk.injEq] at h
      obtain ⟨rfl, rfl⟩ := h
      exact wx_spD tt_ok (.inl rfl) Tryd.results36 (Res.tmp rfl Res.nil) ⟨p0a0, p0n0, p0c0, p0B0, p0N0, p0V0, rfl, rfl⟩ (fun F => by simp) (pSub (pCons Sel.hc (pApp Sel.ha pNil)))
    replace h := cf hc h
    refine wc_skip (wx_block (wx_then (wc_seq (wc_region ?_))))
    iterate 4 refine wl_pure tt_ok rfl rfl ?_
    refine wl_pure (v := .pointer (some ⟨p0b, 1, none⟩)) tt_ok rfl rfl ?_
    refine wl_val (v := .slice p0a0 p0n0 p0c0) (val_load tt_ok rfl (List.Mem.head _) rfl) rfl ?_
    refine wl_pure tt_ok rfl rfl ?_
    refine wl_chg (chg_bsv (enc := (e1 .u8)) (xs := ([p2] : List Int)) tt_ok rfl rfl rfl rfl rfl rfl rfl rfl (e1_len _)) rfl ?_
    rintro _ _ ⟨a61, n61_, c61, B61, rfl, N61, V61, rfl⟩
    replace h := bsome h; obtain ⟨v62, x62, h⟩ := h
    refine wl_chg (chg_app (enc := (e1 .u8)) (ys := ([p2] : List Int)) tt_ok rfl rfl rfl rfl rfl rfl p0N0 N61 p0V0 (Sel.sa (Sel.sc Sel.ha)) (Rds.of_vec V61) ⟨_, Sel.ha⟩ (e1_len _) (fun _ => rfl) rfl x62) rfl ?_
    rintro _ _ ⟨a62, n62_, c62, B62, rfl, N62, V62, rfl⟩
    iterate 2 refine wl_pure tt_ok rfl rfl ?_
    refine wl_pure (v := .pointer (some ⟨p0b, 1, none⟩)) tt_ok rfl rfl ?_
    apply wl_store tt_ok; rfl; exact (Upd.right (Upd.right Upd.here)); rfl; rfl; rfl; rfl; rfl; rfl
    refine wl_pure tt_ok rfl rfl ?_
    refine wl_pure (v := .pointer (some ⟨p0b, 2, none⟩)) tt_ok rfl rfl ?_
    apply wl_store tt_ok; rfl; exact (Upd.right (Upd.right Upd.here)); rfl; rfl; rfl; rfl; rfl; rfl
    refine wl_nil (wx_then (wc_seq (wc_region ?_)))
    refine wl_pure tt_ok rfl rfl ?_
    refine wl_nil (wx_then (wc_ret ?_))
    simp only [Option.some.injEq, Prod.mk.injEq] at h
    obtain ⟨rfl, rfl⟩ := h
    exact wx_spD tt_ok (.inl rfl) Tryd.results36 (Res.tmp rfl Res.nil) ⟨a62, n62_, c62, B62, N62, V62, rfl, rfl⟩ (fun F => by simp) (pSub (pCons (Sel.sa (Sel.sa Sel.hc)) (pApp Sel.ha pNil)))
  replace h := cf hc h
  refine wl_skip rfl rfl ?_
  refine wl_skip rfl rfl ?_
  refine wl_skip rfl rfl ?_
  simp only [Option.some.injEq, Prod.mk.injEq] at h
  obtain rfl := h
  have h := hg35; clear hg35
  refine wl_pure (v := .bool false) tt_ok rfl rfl ?_
  refine wl_pure tt_ok rfl rfl ?_
  refine wl_nil (wx_then ?_)
  replace h := cf rfl h
  refine wc_cond_false rfl ?_
  refine wc_seq (wc_region ?_)
  iterate 2 refine wl_pure tt_ok rfl rfl ?_
  refine wl_nil (wx_then ?_)
  refine wc_cond rfl (fun hc => ?_) (fun hc => ?_)
  · replace h := ct hc h
    refine wc_seq (wc_region ?_)
    refine wl_pure tt_ok rfl rfl ?_
    refine wl_nil (wx_then (wc_ret (wx_block_ret (wx_then_ret ?_))))
    simp only [Option.some.injEq, Prod.mk.injEq] at h
    obtain ⟨rfl, rfl⟩ := h
    exact wx_spD tt_ok (.inl rfl) Tryd.results36 (Res.tmp rfl Res.nil) ⟨p0a0, p0n0, p0c0, p0B0, p0N0, p0V0, rfl, rfl⟩ (fun F => by simp) (pSub (pCons Sel.hc (pApp Sel.ha pNil)))
  replace h := cf hc h
  refine wc_seq (wc_region ?_)
  iterate 2 refine wl_pure tt_ok rfl rfl ?_
  replace h := bsome h; obtain ⟨v41, x41, h⟩ := h
  refine wl_cq Tryd.call34 rfl rfl rfl (q_rd (k_queue_Queue_Known (p0 := p0) p0N0 p0V0 x41) (pCons Sel.hc (pApp Sel.ha pNil)) (fun _ _ => trivial)) rfl ?_
  refine wl_pure (v := .bool (decide (v41 < p1))) tt_ok rfl rfl ?_
  refine wl_pure tt_ok rfl rfl ?_
  replace h := bsome h; obtain ⟨v46, h, hg46⟩ := h
  refine wl_split (t := 43) rfl (fun hc => ?_) (fun hc => ?_)
  · replace h := ct hc h
    refine wl_skip rfl rfl ?_
    refine wl_skip rfl rfl ?_
    simp only [Option.some.injEq, Prod.mk.injEq] at h
    obtain rfl := h
    have h := hg46; clear hg46
    refine wl_pure (v := .bool true) tt_ok rfl rfl ?_
    refine wl_pure tt_ok rfl rfl ?_
    refine wl_nil (wx_then ?_)
    replace h := ct rfl h
    refine wc_cond_true rfl ?_
    refine wc_seq (wc_region ?_)
    refine wl_pure tt_ok rfl rfl ?_
    refine wl_nil (wx_then (wc_ret (wx_block_ret (wx_then_ret ?_))))
    simp only [Option.some.injEq, Prod.mk.injEq] at h
    obtain ⟨rfl, rfl⟩ := h
    exact wx_spD tt_ok (.inl rfl) Tryd.results36 (Res.tmp rfl Res.nil) ⟨p0a0, p0n0, p0c0, p0B0, p0N0, p0V0, rfl, rfl⟩ (fun F => by simp) (pSub (pCons Sel.hc (pApp Sel.ha pNil)))
  replace h := cf hc h
  refine wl_run rfl ?_
  refine wl_pure tt_ok rfl rfl ?_
  refine wl_run rfl ?_
  refine wl_pure (v := .bool (p1 == (18446744073709551615 : Int))) tt_ok rfl rfl ?_
  simp only [Option.some.injEq, Prod.mk.injEq] at h
  obtain rfl := h
  have h := hg46; clear hg46
  refine wl_pure (v := .bool (p1 == (18446744073709551615 : Int))) tt_ok rfl rfl ?_
  refine wl_pure tt_ok rfl rfl ?_
  refine wl_nil (wx_then ?_)
  refine wc_cond rfl (fun hc => ?_) (fun hc => ?_)
  · replace h := ct hc h
    refine wc_seq (wc_region ?_)
    refine wl_pure tt_ok rfl rfl ?_
    refine wl_nil (wx_then (wc_ret (wx_block_ret (wx_then_ret ?_))))
    simp only [Option.some.injEq, Prod.mk.injEq] at h
    obtain ⟨rfl, rfl⟩ := h
    exact wx_spD tt_ok (.inl rfl) Tryd.results36 (Res.tmp rfl Res.nil) ⟨p0a0, p0n0, p0c0, p0B0, p0N0, p0V0, rfl, rfl⟩ (fun F => by simp) (pSub (pCons Sel.hc (pApp Sel.ha pNil)))
  replace h := cf hc h
  refine wc_seq (wc_region ?_)
  iterate 2 refine wl_pure tt_ok rfl rfl ?_
  refine wl_pure (v := .pointer (some ⟨p0b, 1, none⟩)) tt_ok rfl rfl ?_
  refine wl_val (v := .slice p0a0 p0n0 p0c0) (val_load tt_ok rfl (List.Mem.head _) rfl) rfl ?_
  refine wl_val (v := .int .i64 (p0.l.length : Int)) (val_len tt_ok rfl rfl p0N0) rfl ?_
  refine wl_pure (v := .bool (decide ((24 : Int) ≤ (p0.l.length : Int)))) tt_ok rfl rfl ?_
  refine wl_pure tt_ok rfl rfl ?_
  refine wl_nil (wx_then ?_)
  refine wc_cond rfl (fun hc => ?_) (fun hc => ?_)
  · replace h := ct hc h
    refine wc_seq (wc_region ?_)
    refine wl_pure tt_ok rfl rfl ?_
    refine wl_nil (wx_then (wc_ret (wx_block_ret (wx_then_ret ?_))))
    simp only [Option.some.injEq, Prod.mk.injEq] at h
    obtain ⟨rfl, rfl⟩ := h
    exact wx_spD tt_ok (.inl rfl) Tryd.results36 (Res.tmp rfl Res.nil) ⟨p0a0, p0n0, p0c0, p0B0, p0N0, p0V0, rfl, rfl⟩ (fun F => by simp) (pSub (pCons Sel.hc (pApp Sel.ha pNil)))
  replace h := cf hc h
  refine wc_skip (wx_block (wx_then (wc_seq (wc_region ?_))))
  iterate 4 refine wl_pure tt_ok rfl rfl ?_
  refine wl_pure (v := .pointer (some ⟨p0b, 1, none⟩)) tt_ok rfl rfl ?_
  refine wl_val (v := .slice p0a0 p0n0 p0c0) (val_load tt_ok rfl (List.Mem.head _) rfl) rfl ?_
  refine wl_pure tt_ok rfl rfl ?_
  refine wl_chg (chg_bsv (enc := (e1 .u8)) (xs := ([p2] : List Int)) tt_ok rfl rfl rfl rfl rfl rfl rfl rfl (e1_len _)) rfl ?_
  rintro _ _ ⟨a61, n61_, c61, B61, rfl, N61, V61, rfl⟩
  replace h := bsome h; obtain ⟨v62, x62, h⟩ := h
  refine wl_chg (chg_app (enc := (e1 .u8)) (ys := ([p2] : List Int)) tt_ok rfl rfl rfl rfl rfl rfl p0N0 N61 p0V0 (Sel.sa (Sel.sc Sel.ha)) (Rds.of_vec V61) ⟨_, Sel.ha⟩ (e1_len _) (fun _ => rfl) rfl x62) rfl ?_
  rintro _ _ ⟨a62, n62_, c62, B62, rfl, N62, V62, rfl⟩
  iterate 2 refine wl_pure tt_ok rfl rfl ?_
  refine wl_pure (v := .pointer (some ⟨p0b, 1, none⟩)) tt_ok rfl rfl ?_
  apply wl_store tt_ok; rfl; exact (Upd.right (Upd.right Upd.here)); rfl; rfl; rfl; rfl; rfl; rfl
  refine wl_pure tt_ok rfl rfl ?_
  refine wl_pure (v := .pointer (some ⟨p0b, 2, none⟩)) tt_ok rfl rfl ?_
  apply wl_store tt_ok; rfl; exact (Upd.right (Upd.right Upd.here)); rfl; rfl; rfl; rfl; rfl; rfl
  refine wl_nil (wx_then (wc_seq (wc_region ?_)))
  refine wl_pure tt_ok rfl rfl ?_
  refine wl_nil (wx_then (wc_ret ?_))
  simp only [Option.some.injEq, Prod.mk.injEq] at h
  obtain ⟨rfl, rfl⟩ := h
  exact wx_spD tt_ok (.inl rfl) Tryd.results36 (Res.tmp rfl Res.nil) ⟨a62, n62_, c62, B62, N62, V62, rfl, rfl⟩ (fun F => by simp) (pSub (pCons (Sel.sa (Sel.sa Sel.hc)) (pApp Sel.ha pNil)))

theorem k_ring_Ring_Cut {F : Nat} {p0 : T_ring_Ring} {p0b p0t : Nat} {p0g0 : List (T_ring_place × G)} {p0P0 : List Blk} {p1 : Int} {r0 : T_ring_Ring} {r1 : Int} (p0G0 : p0.places.1 = unG p0g0) (p0A0 : AllP sh_T_ring_place c_T_api_Shot p0P0 p0g0) (h : m_ring_Ring_Cut F p0 p1 = some (r0, r1)) :
    SpD Tryd.prog 37 [.pointer (some ⟨p0b, 0, none⟩), .int .u64 p1] (⟨p0b, ([.int .i64 p0.size] ++ flat cg_T_ring_place p0g0), p0t, (0, 0)⟩ :: (p0P0 ++ [])) (fun w => True) (fun v D => ∃ (r0g0 : List (T_ring_place × G)) (r0P0 : List Blk), r0.places.1 = unG r0g0 ∧ AllP sh_T_ring_place c_T_api_Shot r0P0 r0g0 ∧ v = .int .i64 r1 ∧ D = fun F => (⟨p0b, ([.int .i64 r0.size] ++ flat cg_T_ring_place r0g0), p0t, (0, 0)⟩ :: (r0P0 ++ F))) := by
  unfold m_ring_Ring_Cut at h
  refine sp_of_wc Tryd.func37 rfl Tryd.ntmps37 rfl rfl (fun w0 hR => ?_)
  refine wc_seq (wc_region ?_)
  refine wl_pure tt_ok rfl rfl ?_
  refine wl_nil (wx_then (wc_seq (wc_seq (wc_region ?_))))
  refine wl_pure tt_ok rfl rfl ?_
  replace h := bsome h; obtain ⟨v9, x9, h⟩ := h
  refine wl_cq Tryd.call49 rfl rfl rfl (q_rd (k_ring_Ring_is (p0 := p0) p0G0 p0A0 x9) (pCons Sel.hc (pApp Sel.ha pNil)) (fun _ _ => trivial)) rfl ?_
  refine wl_pure (v := .bool (!v9)) tt_ok rfl rfl ?_
  refine wl_nil (wx_then ?_)
  refine wc_cond rfl (fun hc => ?_) (fun hc => ?_)
  · replace h := ct hc h
    refine wc_seq (wc_region ?_)
    refine wl_pure tt_ok rfl rfl ?_
    refine wl_nil (wx_then (wc_ret (wx_then_ret ?_)))
    simp only [Option.some.injEq, Prod.mk.injEq] at h
    obtain ⟨rfl, rfl⟩ := h
    exact wx_spD tt_ok (.inl rfl) Tryd.results37 (Res.tmp rfl Res.nil) ⟨p0g0, p0P0, p0G0, p0A0, rfl, rfl⟩ (fun F => by simp) (pSub (pCons Sel.hc (pApp Sel.ha pNil)))
  replace h := cf hc h
  refine wc_skip (wx_then (wc_seq (wc_region ?_)))
  refine wl_pure tt_ok rfl rfl ?_
  refine wl_nil (wx_then (wc_seq (wc_seq (wc_region ?_))))
  iterate 2 refine wl_pure tt_ok rfl rfl ?_
  refine wl_pure (v := .pointer (some ⟨p0b, 1, none⟩)) tt_ok rfl rfl ?_
  refine wl_val (v := .agg (flat cg_T_ring_place p0g0 : List Value).toArray) (val_load tt_ok rfl (List.Mem.head _) (partV_arr (enc := cg_T_ring_place) (pre := [.int .i64 p0.size]) (post := []) (xs := p0g0) rfl c_np rfl (arr_len cg_T_ring_place_len (arrg_len p0G0 p0.places.2) rfl))) rfl ?_
  refine wl_pure tt_ok rfl rfl ?_
  refine wl_nil (wx_then (wc_block ?_))
  replace h := bsome h; obtain ⟨⟨l17_5, l17_p0_f1⟩, h, hl17⟩ := h; try dsimp only at hl17
  refine wc_loop (fun m E L => ∃ (j17_5 : Int) (j17_15 : Int) (j17_p0_f1 : (Arr T_ring_place 14)) (j17_p0_f1g0 : List (T_ring_place × G)), m_ring_Ring_Cut_L16 F p0 p1 m j17_5 j17_15 j17_p0_f1 = some (l17_5, l17_p0_f1) ∧ j17_p0_f1.1 = unG j17_p0_f1g0 ∧ AllP sh_T_ring_place c_T_api_Shot p0P0 j17_p0_f1g0 ∧ E = [(0, .pointer (some ⟨p0b, 0, none⟩)), (1, .int .u64 p1), (4, .int .i64 (0 : Int)), (5, .int .i64 j17_5), (14, .agg (flat cg_T_ring_place p0g0 : List Value).toArray), (15, .int .i64 j17_15)] ∧ L = (⟨p0b, ([.int .i64 p0.size] ++ flat cg_T_ring_place j17_p0_f1g0), p0t, (0, 0)⟩ :: (p0P0 ++ []))) F ⟨(0 : Int), (0 : Int), p0.places, p0g0, h, p0G0, p0A0, rfl, rfl⟩ (agree_cons rfl (agree_cons rfl (agree_cons rfl (agree_cons rfl (agree_cons rfl (agree_cons rfl agree_nil)))))) (pSub (pCons Sel.hc (pApp Sel.ha pNil))) ?_
  clear h
  rintro m17 _ _ ⟨j17_5, j17_15, j17_p0_f1, j17_p0_f1g0, h, j17_p0_f1G0, j17_p0_f1A0, rfl, rfl⟩
  rcases m17 with _ | m17
  · rw [m_ring_Ring_Cut_L16.eq_1] at h; cases h
  rw [m_ring_Ring_Cut_L16.eq_2] at h
  refine wc_seq (wc_region ?_)
  refine wl_pure (v := .bool (decide (j17_15 < (14 : Int)))) tt_ok rfl rfl ?_
  refine wl_nil (wx_then (wc_seq ?_))
  refine wc_cond rfl (fun hc => ?_) (fun hc => ?_)
  · replace h := ct hc h
    refine wc_skip (wx_then (wc_seq (wc_block (wc_seq (wc_region ?_)))))
    refine wl_pure tt_ok rfl rfl ?_
    replace h := bsome h; obtain ⟨v18, x18, h⟩ := h
    obtain ⟨G18, y18⟩ := getI_g p0G0 x18
    refine wl_val (v := .agg #[.int .u64 v18.s.Frame, .int .u64 v18.s.Seed, .int .i32 v18.s.Players.1.X, .int .i32 v18.s.Players.1.Y, .int .i32 v18.s.Players.1.VX, .int .i32 v18.s.Players.1.VY, .int .u8 v18.s.Players.1.Health, .int .u8 v18.s.Players.1.Cool, .int .u8 v18.s.Players.1.Face, .int .i32 v18.s.Players.2.X, .int .i32 v18.s.Players.2.Y, .int .i32 v18.s.Players.2.VX, .int .i32 v18.s.Players.2.VY, .int .u8 v18.s.Players.2.Health, .int .u8 v18.s.Players.2.Cool, .int .u8 v18.s.Players.2.Face, .slice G18.1 G18.2.1 G18.2.2, .int .u16 v18.s.Score.1, .int .u16 v18.s.Score.2, .bool v18.is_]) (val_xv (enc := cg_T_ring_place) (xs := p0g0) tt_ok rfl rfl rfl rfl rfl (arrg_len p0G0 p0.places.2) cg_T_ring_place_len y18) rfl ?_
    refine wl_alloc tt_ok rfl rfl (fun b7 => ?_)
    refine wl_pure tt_ok rfl rfl ?_
    apply wl_store tt_ok; rfl; exact Upd.here; rfl; rfl; rfl; rfl; rfl; rfl
    refine wl_nil (wx_then (wc_seq (wc_region ?_)))
    refine wl_pure (v := .pointer (some ⟨b7, 19, none⟩)) tt_ok rfl rfl ?_
    refine wl_val (v := .bool v18.is_) (val_load tt_ok rfl (List.Mem.head _) rfl) rfl ?_
    refine wl_pure tt_ok rfl rfl ?_
    replace h := bsome h; obtain ⟨v27, h, hg27⟩ := h
    refine wl_split (t := 21) rfl (fun hc => ?_) (fun hc => ?_)
    · replace h := ct hc h
      refine wl_run rfl ?_
      refine wl_pure (v := .pointer (some ⟨b7, 0, none⟩)) tt_ok rfl rfl ?_
      refine wl_run rfl ?_
      refine wl_pure (v := .pointer (some ⟨b7, 0, none⟩)) tt_ok rfl rfl ?_
      refine wl_run rfl ?_
      refine wl_val (v := .int .u64 v18.s.Frame) (val_load tt_ok rfl (List.Mem.head _) rfl) rfl ?_
      refine wl_run rfl ?_
      refine wl_pure tt_ok rfl rfl ?_
      refine wl_run rfl ?_
      refine wl_pure (v := .bool (decide (p1 < v18.s.Frame))) tt_ok rfl rfl ?_
      simp only [Option.some.injEq, Prod.mk.injEq] at h
      obtain rfl := h
      have h := hg27; clear hg27
      refine wl_pure (v := .bool (decide (p1 < v18.s.Frame))) tt_ok rfl rfl ?_
      refine wl_nil (wx_then ?_)
      refine wc_cond rfl (fun hc => ?_) (fun hc => ?_)
      · replace h := ct hc h
        refine wc_seq (wc_region ?_)
        iterate 2 refine wl_pure tt_ok rfl rfl ?_
        refine wl_pure (v := .agg #[.int .u64 (0 : Int), .int .u64 (0 : Int), .int .i32 (0 : Int), .int .i32 (0 : Int), .int .i32 (0 : Int), .int .i32 (0 : Int), .int .u8 (0 : Int), .int .u8 (0 : Int), .int .u8 (0 : Int), .int .i32 (0 : Int), .int .i32 (0 : Int), .int .i32 (0 : Int), .int .i32 (0 : Int), .int .u8 (0 : Int), .int .u8 (0 : Int), .int .u8 (0 : Int), .slice none 0 0, .int .u16 (0 : Int), .int .u16 (0 : Int), .bool false]) tt_ok rfl rfl ?_
        refine wl_pure tt_ok rfl rfl ?_
        refine wl_pure (v := .pointer (some ⟨p0b, 1, none⟩)) tt_ok rfl rfl ?_
        replace h := bsome h; obtain ⟨v33, x33, h⟩ := h
        obtain ⟨G33, y33⟩ := getI_g j17_p0_f1G0 x33
        refine wl_val (v := .pointer (some ⟨p0b, 1 + j17_15.toNat * 20 + 0, none⟩)) (val_xa (a := j17_p0_f1) tt_ok rfl rfl rfl rfl x33) rfl ?_
        refine wl_chg0 (chg_stx (enc := cg_T_ring_place) (pre := [.int .i64 p0.size]) (post := []) (xs := j17_p0_f1g0) (y' := ((T_ring_place.mk (T_api_State.mk (0 : Int) (0 : Int) ((T_api_Player.mk (0 : Int) (0 : Int) (0 : Int) (0 : Int) (0 : Int) (0 : Int) (0 : Int)), (T_api_Player.mk (0 : Int) (0 : Int) (0 : Int) (0 : Int) (0 : Int) (0 : Int) (0 : Int))) ([] : List T_api_Shot) ((0 : Int), (0 : Int))) false), (none, 0, 0))) (c' := ([.int .i64 p0.size] ++ flat cg_T_ring_place (setI j17_p0_f1g0 j17_15 ((T_ring_place.mk (T_api_State.mk (0 : Int) (0 : Int) ((T_api_Player.mk (0 : Int) (0 : Int) (0 : Int) (0 : Int) (0 : Int) (0 : Int) (0 : Int)), (T_api_Player.mk (0 : Int) (0 : Int) (0 : Int) (0 : Int) (0 : Int) (0 : Int) (0 : Int))) ([] : List T_api_Shot) ((0 : Int), (0 : Int))) false), (none, 0, 0))))) tt_ok rfl rfl rfl rfl rfl rfl (Upd.there Upd.here) c_np c_np rfl cg_T_ring_place_len y33 rfl (by intro h; cases h)) ?_
        rintro _ _ rfl
        refine wl_nil (wx_then (wc_region ?_))
        refine wl_pure tt_ok rfl rfl ?_
        refine wl_pure (v := .int .i64 (IntKind.wrap .i64 (j17_5 + (1 : Int)))) tt_ok rfl rfl ?_
        refine wl_pure tt_ok rfl rfl ?_
        refine wl_nil (wx_block (wx_then (wc_region ?_)))
        refine wl_pure (v := .int .i64 (IntKind.wrap .i64 (j17_15 + (1 : Int)))) tt_ok rfl rfl ?_
        refine wl_pure tt_ok rfl rfl ?_
        refine wl_nil ?_
        exact wx_round m17 (Nat.lt_succ_self m17) ⟨(IntKind.wrap .i64 (j17_5 + (1 : Int))), (IntKind.wrap .i64 (j17_15 + (1 : Int))), (Arr.set j17_p0_f1 j17_15 (T_ring_place.mk (T_api_State.mk (0 : Int) (0 : Int) ((T_api_Player.mk (0 : Int) (0 : Int) (0 : Int) (0 : Int) (0 : Int) (0 : Int) (0 : Int)), (T_api_Player.mk (0 : Int) (0 : Int) (0 : Int) (0 : Int) (0 : Int) (0 : Int) (0 : Int))) ([] : List T_api_Shot) ((0 : Int), (0 : Int))) false)), (setI j17_p0_f1g0 j17_15 ((T_ring_place.mk (T_api_State.mk (0 : Int) (0 : Int) ((T_api_Player.mk (0 : Int) (0 : Int) (0 : Int) (0 : Int) (0 : Int) (0 : Int) (0 : Int)), (T_api_Player.mk (0 : Int) (0 : Int) (0 : Int) (0 : Int) (0 : Int) (0 : Int) (0 : Int))) ([] : List T_api_Shot) ((0 : Int), (0 : Int))) false), (none, 0, 0))), h, (setI_g j17_p0_f1G0 j17_15 ((T_ring_place.mk (T_api_State.mk (0 : Int) (0 : Int) ((T_api_Player.mk (0 : Int) (0 : Int) (0 : Int) (0 : Int) (0 : Int) (0 : Int) (0 : Int)), (T_api_Player.mk (0 : Int) (0 : Int) (0 : Int) (0 : Int) (0 : Int) (0 : Int) (0 : Int))) ([] : List T_api_Shot) ((0 : Int), (0 : Int))) false), (none, 0, 0))), (fun w A => allrd_set (j17_p0_f1A0 w A) (allrd_one (sh := sh_T_ring_place) (x := (T_ring_place.mk (T_api_State.mk (0 : Int) (0 : Int) ((T_api_Player.mk (0 : Int) (0 : Int) (0 : Int) (0 : Int) (0 : Int) (0 : Int) (0 : Int)), (T_api_Player.mk (0 : Int) (0 : Int) (0 : Int) (0 : Int) (0 : Int) (0 : Int) (0 : Int))) ([] : List T_api_Shot) ((0 : Int), (0 : Int))) false)) (s := ([] : List T_api_Shot)) rfl rfl (Nat.le_refl _) Rds.nil (fun _ => rfl))), rfl, rfl⟩ (agree_cons rfl (agree_cons rfl (agree_cons rfl (agree_cons rfl (agree_cons rfl (agree_cons rfl agree_nil)))))) (pSub (pCons (Sel.sc Sel.hc) (pApp (Sel.sc Sel.ha) pNil)))
      replace h := cf hc h
      refine wc_skip (wx_block (wx_then (wc_region ?_)))
      refine wl_pure (v := .int .i64 (IntKind.wrap .i64 (j17_15 + (1 : Int)))) tt_ok rfl rfl ?_
      refine wl_pure tt_ok rfl rfl ?_
      refine wl_nil ?_
      exact wx_round m17 (Nat.lt_succ_self m17) ⟨j17_5, (IntKind.wrap .i64 (j17_15 + (1 : Int))), j17_p0_f1, j17_p0_f1g0, h, j17_p0_f1G0, j17_p0_f1A0, rfl, rfl⟩ (agree_cons rfl (agree_cons rfl (agree_cons rfl (agree_cons rfl (agree_cons rfl (agree_cons rfl agree_nil)))))) (pSub (pCons (Sel.sc Sel.hc) (pApp (Sel.sc Sel.ha) pNil)))
    replace h := cf hc h
    refine wl_skip rfl rfl ?_
    refine wl_skip rfl rfl ?_
    refine wl_skip rfl rfl ?_
    refine wl_skip rfl rfl ?_
    refine wl_skip rfl rfl ?_
    simp only [Option.some.injEq, Prod.mk.injEq] at h
    obtain rfl := h
    have h := hg27; clear hg27
    refine wl_pure (v := .bool false) tt_ok rfl rfl ?_
    refine wl_nil (wx_then ?_)
    replace h := cf rfl h
    refine wc_cond_false rfl ?_
    refine wc_skip (wx_block (wx_then (wc_region ?_)))
    refine wl_pure (v := .int .i64 (IntKind.wrap .i64 (j17_15 + (1 : Int)))) tt_ok rfl rfl ?_
    refine wl_pure tt_ok rfl rfl ?_
    refine wl_nil ?_
    exact wx_round m17 (Nat.lt_succ_self m17) ⟨j17_5, (IntKind.wrap .i64 (j17_15 + (1 : Int))), j17_p0_f1, j17_p0_f1g0, h, j17_p0_f1G0, j17_p0_f1A0, rfl, rfl⟩ (agree_cons rfl (agree_cons rfl (agree_cons rfl (agree_cons rfl (agree_cons rfl (agree_cons rfl agree_nil)))))) (pSub (pCons (Sel.sc Sel.hc) (pApp (Sel.sc Sel.ha) pNil)))
  replace h := cf hc h
  refine wc_exit (wx_then_exit ?_)
  simp only [Option.some.injEq, Prod.mk.injEq] at h
  obtain ⟨rfl, rfl⟩ := h
  have h := hl17; clear hl17; try dsimp only [orE_l, orE_r] at h
  refine wx_then_exit (wx_block_exit (wx_then (wc_seq (wc_region ?_))))
  iterate 2 refine wl_pure tt_ok rfl rfl ?_
  refine wl_nil (wx_then (wc_ret ?_))
  simp only [Option.some.injEq, Prod.mk.injEq] at h
  obtain ⟨rfl, rfl⟩ := h
  exact wx_spD tt_ok (.inl rfl) Tryd.results37 (Res.tmp rfl Res.nil) ⟨j17_p0_f1g0, p0P0, j17_p0_f1G0, j17_p0_f1A0, rfl, rfl⟩ (fun F => by simp) (pSub (pCons Sel.hc (pApp Sel.ha pNil)))

theorem k_rollback_Engine_Remote {F : Nat} {p0 : T_rollback_Engine} {p0b p0t : Nat} {p0a0 : Option Addr} {p0n0 : Nat} {p0c0 : Nat} {p0B0 : List Blk} {p0a1 : Option Addr} {p0n1 : Nat} {p0c1 : Nat} {p0B1 : List Blk} {p0_4 : T_queue_Queue} {p0_4b p0_4t : Nat} {p0_4a0 : Option Addr} {p0_4n0 : Nat} {p0_4c0 : Nat} {p0_4B0 : List Blk} {p0_5 : T_ring_Ring} {p0_5b p0_5t : Nat} {p0_5g0 : List (T_ring_place × G)} {p0_5P0 : List Blk} {p1 : Int} {p2 : Int} {r0 : T_queue_Queue} {r1 : T_ring_Ring} {r2 : Int} (p0N0 : p0n0 = p0.sure.Shots.length) (p0V0 : Own 80 6 p0a0 p0n0 p0c0 (flat c_T_api_Shot p0.sure.Shots) p0B0) (p0N1 : p0n1 = p0.own.length) (p0V1 : Own 40 1 p0a1 p0n1 p0c1 (flat (e1 .u8) p0.own) p0B1) (p0_4N0 : p0_4n0 = p0_4.l.length) (p0_4V0 : Own 40 1 p0_4a0 p0_4n0 p0_4c0 (flat (e1 .u8) p0_4.l) p0_4B0) (p0_5G0 : p0_5.places.1 = unG p0_5g0) (p0_5A0 : AllP sh_T_ring_place c_T_api_Shot p0_5P0 p0_5g0) (h : m_rollback_Engine_Remote F p0 p0_4 p0_5 p1 p2 = some (r0, r1, r2)) :
    SpD Tryd.prog 12 [.pointer (some ⟨p0b, 0, none⟩), .int .u64 p1, .int .u8 p2] (⟨p0b, [.int .u8 p0.player, .int .i64 p0.window, .int .u64 p0.sure.Frame, .int .u64 p0.sure.Seed, .int .i32 p0.sure.Players.1.X, .int .i32 p0.sure.Players.1.Y, .int .i32 p0.sure.Players.1.VX, .int .i32 p0.sure.Players.1.VY, .int .u8 p0.sure.Players.1.Health, .int .u8 p0.sure.Players.1.Cool, .int .u8 p0.sure.Players.1.Face, .int .i32 p0.sure.Players.2.X, .int .i32 p0.sure.Players.2.Y, .int .i32 p0.sure.Players.2.VX, .int .i32 p0.sure.Players.2.VY, .int .u8 p0.sure.Players.2.Health, .int .u8 p0.sure.Players.2.Cool, .int .u8 p0.sure.Players.2.Face, .slice p0a0 p0n0 p0c0, .int .u16 p0.sure.Score.1, .int .u16 p0.sure.Score.2, .slice p0a1 p0n1 p0c1, .pointer (some ⟨p0_4b, 0, none⟩), .pointer (some ⟨p0_5b, 0, none⟩)], p0t, (0, 0)⟩ :: (p0B0 ++ (p0B1 ++ (⟨p0_4b, [.int .u64 p0_4.first_, .slice p0_4a0 p0_4n0 p0_4c0, .int .u8 p0_4.last], p0_4t, (0, 0)⟩ :: (p0_4B0 ++ (⟨p0_5b, ([.int .i64 p0_5.size] ++ flat cg_T_ring_place p0_5g0), p0_5t, (0, 0)⟩ :: (p0_5P0 ++ []))))))) (fun w => True) (fun v D => ∃ (r0a0 : Option Addr) (r0n0 : Nat) (r0c0 : Nat) (r0B0 : List Blk) (r1g0 : List (T_ring_place × G)) (r1P0 : List Blk), r0n0 = r0.l.length ∧ Own 40 1 r0a0 r0n0 r0c0 (flat (e1 .u8) r0.l) r0B0 ∧ r1.places.1 = unG r1g0 ∧ AllP sh_T_ring_place c_T_api_Shot r1P0 r1g0 ∧ v = .int .i64 r2 ∧ D = fun F => (⟨p0b, [.int .u8 p0.player, .int .i64 p0.window, .int .u64 p0.sure.Frame, .int .u64 p0.sure.Seed, .int .i32 p0.sure.Players.1.X, .int .i32 p0.sure.Players.1.Y, .int .i32 p0.sure.Players.1.VX, .int .i32 p0.sure.Players.1.VY, .int .u8 p0.sure.Players.1.Health, .int .u8 p0.sure.Players.1.Cool, .int .u8 p0.sure.Players.1.Face, .int .i32 p0.sure.Players.2.X, .int .i32 p0.sure.Players.2.Y, .int .i32 p0.sure.Players.2.VX, .int .i32 p0.sure.Players.2.VY, .int .u8 p0.sure.Players.2.Health, .int .u8 p0.sure.Players.2.Cool, .int .u8 p0.sure.Players.2.Face, .slice p0a0 p0n0 p0c0, .int .u16 p0.sure.Score.1, .int .u16 p0.sure.Score.2, .slice p0a1 p0n1 p0c1, .pointer (some ⟨p0_4b, 0, none⟩), .pointer (some ⟨p0_5b, 0, none⟩)], p0t, (0, 0)⟩ :: (p0B0 ++ (p0B1 ++ (⟨p0_4b, [.int .u64 r0.first_, .slice r0a0 r0n0 r0c0, .int .u8 r0.last], p0_4t, (0, 0)⟩ :: (r0B0 ++ (⟨p0_5b, ([.int .i64 r1.size] ++ flat cg_T_ring_place r1g0), p0_5t, (0, 0)⟩ :: (r1P0 ++ F)))))))) := by
  unfold m_rollback_Engine_Remote at h
  refine sp_of_wc Tryd.func12 rfl Tryd.ntmps12 rfl rfl (fun w0 hR => ?_)
  refine wc_seq (wc_region ?_)
  refine wl_pure tt_ok rfl rfl ?_
  refine wl_nil (wx_then (wc_seq (wc_seq (wc_region ?_))))
  refine wl_pure tt_ok rfl rfl ?_
  replace h := bsome h; obtain ⟨v11, x11, h⟩ := h
  refine wl_cq Tryd.call30 rfl rfl rfl (q_rd (k_rollback_Engine_is (p0 := p0) (p0_4 := p0_4) (p0_5 := p0_5) p0N0 p0V0 p0N1 p0V1 p0_4N0 p0_4V0 p0_5G0 p0_5A0 x11) (pCons Sel.hc (pApp Sel.ha (pApp Sel.ha (pCons Sel.hc (pApp Sel.ha (pCons Sel.hc (pApp Sel.ha pNil))))))) (fun _ _ => trivial)) rfl ?_
  refine wl_pure (v := .bool (!v11)) tt_ok rfl rfl ?_
  refine wl_nil (wx_then ?_)
  refine wc_cond rfl (fun hc => ?_) (fun hc => ?_)
  · replace h := ct hc h
    refine wc_seq (wc_region ?_)
    refine wl_pure tt_ok rfl rfl ?_
    refine wl_nil (wx_then (wc_ret (wx_then_ret ?_)))
    simp only [Option.some.injEq, Prod.mk.injEq] at h
    obtain ⟨rfl, rfl, rfl⟩ := h
    exact wx_spD tt_ok (.inl rfl) Tryd.results12 (Res.tmp rfl Res.nil) ⟨p0_4a0, p0_4n0, p0_4c0, p0_4B0, p0_5g0, p0_5P0, p0_4N0, p0_4V0, p0_5G0, p0_5A0, rfl, rfl⟩ (fun F => by simp) (pSub (pCons Sel.hc (pApp Sel.ha (pApp Sel.ha (pCons Sel.hc (pApp Sel.ha (pCons Sel.hc (pApp Sel.ha pNil))))))))
  replace h := cf hc h
  refine wc_skip (wx_then (wc_seq ?_))
  refine wc_quiet (by kernel_rfl) (by kernel_rfl) ?_
  refine wq_pure tt_ok rfl rfl ?_
  refine wq_pure tt_ok rfl rfl ?_
  refine wq_pure (v := .pointer (some ⟨p0b, 22, none⟩)) tt_ok rfl rfl ?_
  refine wq_val (v := .pointer (some ⟨p0_4b, 0, none⟩)) (val_load tt_ok rfl (List.Mem.head _) rfl) rfl ?_
  replace h := bsome h; obtain ⟨v17, x17, h⟩ := h
  refine wq_cq Tryd.call34 rfl rfl rfl (q_rd (k_queue_Queue_Known (p0 := p0_4) p0_4N0 p0_4V0 x17) (pCons (Sel.sc (Sel.sa (Sel.sa Sel.hc))) (pApp (Sel.sc (Sel.sa (Sel.sa Sel.ha))) pNil)) (fun _ _ => trivial)) rfl ?_
  refine wq_pure tt_ok rfl rfl ?_
  refine wq_pure tt_ok rfl rfl ?_
  refine wq_pure (v := .pointer (some ⟨p0b, 22, none⟩)) tt_ok rfl rfl ?_
  refine wq_val (v := .pointer (some ⟨p0_4b, 0, none⟩)) (val_load tt_ok rfl (List.Mem.head _) rfl) rfl ?_
  refine wq_pure tt_ok rfl rfl ?_
  replace h := bsome h; obtain ⟨v23, x23, h⟩ := h
  refine wq_cq Tryd.call35 rfl rfl rfl (q_rd (k_queue_Queue_Guess (p0 := p0_4) p0_4N0 p0_4V0 x23) (pCons (Sel.sc (Sel.sa (Sel.sa Sel.hc))) (pApp (Sel.sc (Sel.sa (Sel.sa Sel.ha))) pNil)) (fun _ _ => trivial)) rfl ?_
  refine wq_pure tt_ok rfl rfl ?_
  refine wq_pure tt_ok rfl rfl ?_
  refine wq_nil ?_
  refine wx_then (wc_seq (wc_region ?_))
  iterate 2 refine wl_pure tt_ok rfl rfl ?_
  refine wl_pure (v := .pointer (some ⟨p0b, 22, none⟩)) tt_ok rfl rfl ?_
  refine wl_val (v := .pointer (some ⟨p0_4b, 0, none⟩)) (val_load tt_ok rfl (List.Mem.head _) rfl) rfl ?_
  iterate 2 refine wl_pure tt_ok rfl rfl ?_
  replace h := bsome h; obtain ⟨⟨o30_0, v30⟩, x30, h⟩ := h; try dsimp only at h
  refine wl_cs Tryd.call36 rfl rfl rfl (s_sp (k_queue_Queue_Add (p0 := p0_4) p0_4N0 p0_4V0 x30) (pCons (Sel.sc (Sel.sa (Sel.sa Sel.hc))) (pApp (Sel.sc (Sel.sa (Sel.sa Sel.ha))) pNil)) (fun _ _ => trivial)) rfl ?_
  rintro _ _ ⟨_, ⟨o30_0a0, o30_0n0, o30_0c0, o30_0B0, o30_0N0, o30_0V0, rfl, rfl⟩, rfl⟩
  refine wl_pure tt_ok rfl rfl ?_
  refine wl_nil (wx_then (wc_seq (wc_seq (wc_region ?_))))
  iterate 2 refine wl_pure tt_ok rfl rfl ?_
  refine wl_pure (v := .pointer (some ⟨p0b, 22, none⟩)) tt_ok rfl rfl ?_
  refine wl_val (v := .pointer (some ⟨p0_4b, 0, none⟩)) (val_load tt_ok rfl (List.Mem.tail _ (mR (List.Mem.head _))) rfl) rfl ?_
  replace h := bsome h; obtain ⟨v35, x35, h⟩ := h
  refine wl_cq Tryd.call34 rfl rfl rfl (q_rd (k_queue_Queue_Known (p0 := o30_0) o30_0N0 o30_0V0 x35) (pCons Sel.hc (pApp Sel.ha pNil)) (fun _ _ => trivial)) rfl ?_
  refine wl_pure tt_ok rfl rfl ?_
  refine wl_pure (v := .bool (decide (v17 < v35))) tt_ok rfl rfl ?_
  refine wl_pure tt_ok rfl rfl ?_
  replace h := bsome h; obtain ⟨v42, h, hg42⟩ := h
  refine wl_split (t := 38) rfl (fun hc => ?_) (fun hc => ?_)
  · replace h := ct hc h
    refine wl_run rfl ?_
    refine wl_pure tt_ok rfl rfl ?_
    refine wl_run rfl ?_
    refine wl_pure tt_ok rfl rfl ?_
    refine wl_run rfl ?_
    refine wl_pure (v := .bool (v23 != p2)) tt_ok rfl rfl ?_
    simp only [Option.some.injEq, Prod.mk.injEq] at h
    obtain rfl := h
    have h := hg42; clear hg42
    refine wl_pure (v := .bool (v23 != p2)) tt_ok rfl rfl ?_
    refine wl_nil (wx_then ?_)
    replace h := bsome h; obtain ⟨⟨j18_p0_5_f0, j18_p0_5_f1⟩, h, hj18⟩ := h; try dsimp only at hj18
    refine wc_join2 (fun E L => ∃ (j18_p0_5_f1g0 : List (T_ring_place × G)) (j18_p0_5_f1P0 : List Blk), j18_p0_5_f1.1 = unG j18_p0_5_f1g0 ∧ AllP sh_T_ring_place c_T_api_Shot j18_p0_5_f1P0 j18_p0_5_f1g0 ∧ E = [(6, .int .i64 (0 : Int)), (9, .int .i64 v30)] ∧ L = (⟨p0b, [.int .u8 p0.player, .int .i64 p0.window, .int .u64 p0.sure.Frame, .int .u64 p0.sure.Seed, .int .i32 p0.sure.Players.1.X, .int .i32 p0.sure.Players.1.Y, .int .i32 p0.sure.Players.1.VX, .int .i32 p0.sure.Players.1.VY, .int .u8 p0.sure.Players.1.Health, .int .u8 p0.sure.Players.1.Cool, .int .u8 p0.sure.Players.1.Face, .int .i32 p0.sure.Players.2.X, .int .i32 p0.sure.Players.2.Y, .int .i32 p0.sure.Players.2.VX, .int .i32 p0.sure.Players.2.VY, .int .u8 p0.sure.Players.2.Health, .int .u8 p0.sure.Players.2.Cool, .int .u8 p0.sure.Players.2.Face, .slice p0a0 p0n0 p0c0, .int .u16 p0.sure.Score.1, .int .u16 p0.sure.Score.2, .slice p0a1 p0n1 p0c1, .pointer (some ⟨p0_4b, 0, none⟩), .pointer (some ⟨p0_5b, 0, none⟩)], p0t, (0, 0)⟩ :: (⟨p0_4b, [.int .u64 o30_0.first_, .slice o30_0a0 o30_0n0 o30_0c0, .int .u8 o30_0.last], p0_4t, (0, 0)⟩ :: (⟨p0_5b, ([.int .i64 j18_p0_5_f0] ++ flat cg_T_ring_place j18_p0_5_f1g0), p0_5t, (0, 0)⟩ :: (p0B0 ++ (p0B1 ++ (o30_0B0 ++ (j18_p0_5_f1P0 ++ [])))))))) ?_ ?_
    · refine wc_cond rfl (fun hc => ?_) (fun hc => ?_)
      · replace h := ct hc h
        refine wc_region ?_
        iterate 2 refine wl_pure tt_ok rfl rfl ?_
        refine wl_pure (v := .pointer (some ⟨p0b, 23, none⟩)) tt_ok rfl rfl ?_
        refine wl_val (v := .pointer (some ⟨p0_5b, 0, none⟩)) (val_load tt_ok rfl (List.Mem.tail _ (mR (List.Mem.head _))) rfl) rfl ?_
        refine wl_pure tt_ok rfl rfl ?_
        replace h := bsome h; obtain ⟨⟨o48_0, v48⟩, x48, h⟩ := h; try dsimp only at h
        refine wl_cs Tryd.call37 rfl rfl rfl (s_sp (k_ring_Ring_Cut (p0 := p0_5) p0_5G0 p0_5A0 x48) (pCons (Sel.sc (Sel.sa (Sel.sc (Sel.sa (Sel.sa Sel.hc))))) (pApp (Sel.sc (Sel.sa (Sel.sc (Sel.sa (Sel.sa Sel.ha))))) pNil)) (fun _ _ => trivial)) rfl ?_
        rintro _ _ ⟨_, ⟨o48_0g0, o48_0P0, o48_0G0, o48_0A0, rfl, rfl⟩, rfl⟩
        refine wl_nil ?_
        simp only [Option.some.injEq, Prod.mk.injEq] at h
        obtain ⟨rfl, rfl⟩ := h
        exact wx_join ⟨o48_0g0, o48_0P0, o48_0G0, o48_0A0, rfl, rfl⟩ (agree_cons rfl (agree_cons rfl agree_nil)) (pSub (pCons (Sel.sc (Sel.sa (Sel.sc (Sel.sa Sel.hc)))) (pCons (Sel.sc (Sel.sa Sel.hc)) (pCons Sel.hc (pApp (Sel.sa (Sel.sa Sel.ha)) (pApp (Sel.sa (Sel.sa Sel.ha)) (pApp (Sel.sa Sel.ha) (pApp Sel.ha pNil))))))))
      replace h := cf hc h
      refine wc_skip ?_
      simp only [Option.some.injEq, Prod.mk.injEq] at h
      obtain ⟨rfl, rfl⟩ := h
      exact wx_join ⟨p0_5g0, p0_5P0, p0_5G0, p0_5A0, rfl, rfl⟩ (agree_cons rfl (agree_cons rfl agree_nil)) (pSub (pCons (Sel.sc (Sel.sa Sel.hc)) (pCons Sel.hc (pCons (Sel.sa (Sel.sa (Sel.sa Sel.hc))) (pApp (Sel.sa Sel.ha) (pApp (Sel.sa Sel.ha) (pApp Sel.ha (pApp Sel.ha pNil))))))))
    rintro _ _ ⟨j18_p0_5_f1g0, j18_p0_5_f1P0, j18_p0_5_f1G0, j18_p0_5_f1A0, rfl, rfl⟩
    have h := hj18; clear hj18
    refine wc_seq (wc_region ?_)
    iterate 2 refine wl_pure tt_ok rfl rfl ?_
    refine wl_nil (wx_then (wc_ret ?_))
    simp only [Option.some.injEq, Prod.mk.injEq] at h
    obtain ⟨rfl, rfl, rfl⟩ := h
    exact wx_spD tt_ok (.inl rfl) Tryd.results12 (Res.tmp rfl Res.nil) ⟨o30_0a0, o30_0n0, o30_0c0, o30_0B0, j18_p0_5_f1g0, j18_p0_5_f1P0, o30_0N0, o30_0V0, j18_p0_5_f1G0, j18_p0_5_f1A0, rfl, rfl⟩ (fun F => by simp) (pSub (pCons Sel.hc (pApp (Sel.sc (Sel.sc Sel.ha)) (pApp (Sel.sc (Sel.sc Sel.ha)) (pCons Sel.hc (pApp (Sel.sc Sel.ha) (pCons Sel.hc (pApp Sel.ha pNil))))))))
  replace h := cf hc h
  refine wl_skip rfl rfl ?_
  refine wl_skip rfl rfl ?_
  refine wl_skip rfl rfl ?_
  simp only [Option.some.injEq, Prod.mk.injEq] at h
  obtain rfl := h
  have h := hg42; clear hg42
  refine wl_pure (v := .bool false) tt_ok rfl rfl ?_
  refine wl_nil (wx_then ?_)
  replace h := bsome h; obtain ⟨⟨j18_p0_5_f0, j18_p0_5_f1⟩, h, hj18⟩ := h; try dsimp only at hj18
  refine wc_join2 (fun E L => ∃ (j18_p0_5_f1g0 : List (T_ring_place × G)) (j18_p0_5_f1P0 : List Blk), j18_p0_5_f1.1 = unG j18_p0_5_f1g0 ∧ AllP sh_T_ring_place c_T_api_Shot j18_p0_5_f1P0 j18_p0_5_f1g0 ∧ E = [(6, .int .i64 (0 : Int)), (9, .int .i64 v30)] ∧ L = (⟨p0b, [.int .u8 p0.player, .int .i64 p0.window, .int .u64 p0.sure.Frame, .int .u64 p0.sure.Seed, .int .i32 p0.sure.Players.1.X, .int .i32 p0.sure.Players.1.Y, .int .i32 p0.sure.Players.1.VX, .int .i32 p0.sure.Players.1.VY, .int .u8 p0.sure.Players.1.Health, .int .u8 p0.sure.Players.1.Cool, .int .u8 p0.sure.Players.1.Face, .int .i32 p0.sure.Players.2.X, .int .i32 p0.sure.Players.2.Y, .int .i32 p0.sure.Players.2.VX, .int .i32 p0.sure.Players.2.VY, .int .u8 p0.sure.Players.2.Health, .int .u8 p0.sure.Players.2.Cool, .int .u8 p0.sure.Players.2.Face, .slice p0a0 p0n0 p0c0, .int .u16 p0.sure.Score.1, .int .u16 p0.sure.Score.2, .slice p0a1 p0n1 p0c1, .pointer (some ⟨p0_4b, 0, none⟩), .pointer (some ⟨p0_5b, 0, none⟩)], p0t, (0, 0)⟩ :: (⟨p0_4b, [.int .u64 o30_0.first_, .slice o30_0a0 o30_0n0 o30_0c0, .int .u8 o30_0.last], p0_4t, (0, 0)⟩ :: (⟨p0_5b, ([.int .i64 j18_p0_5_f0] ++ flat cg_T_ring_place j18_p0_5_f1g0), p0_5t, (0, 0)⟩ :: (p0B0 ++ (p0B1 ++ (o30_0B0 ++ (j18_p0_5_f1P0 ++ [])))))))) ?_ ?_
  · replace h := cf rfl h
    refine wc_cond_false rfl ?_
    refine wc_skip ?_
    simp only [Option.some.injEq, Prod.mk.injEq] at h
    obtain ⟨rfl, rfl⟩ := h
    exact wx_join ⟨p0_5g0, p0_5P0, p0_5G0, p0_5A0, rfl, rfl⟩ (agree_cons rfl (agree_cons rfl agree_nil)) (pSub (pCons (Sel.sc (Sel.sa Sel.hc)) (pCons Sel.hc (pCons (Sel.sa (Sel.sa (Sel.sa Sel.hc))) (pApp (Sel.sa Sel.ha) (pApp (Sel.sa Sel.ha) (pApp Sel.ha (pApp Sel.ha pNil))))))))
  rintro _ _ ⟨j18_p0_5_f1g0, j18_p0_5_f1P0, j18_p0_5_f1G0, j18_p0_5_f1A0, rfl, rfl⟩
  have h := hj18; clear hj18
  refine wc_seq (wc_region ?_)
  iterate 2 refine wl_pure tt_ok rfl rfl ?_
  refine wl_nil (wx_then (wc_ret ?_))
  simp only [Option.some.injEq, Prod.mk.injEq] at h
  obtain ⟨rfl, rfl, rfl⟩ := h
  exact wx_spD tt_ok (.inl rfl) Tryd.results12 (Res.tmp rfl Res.nil) ⟨o30_0a0, o30_0n0, o30_0c0, o30_0B0, j18_p0_5_f1g0, j18_p0_5_f1P0, o30_0N0, o30_0V0, j18_p0_5_f1G0, j18_p0_5_f1A0, rfl, rfl⟩ (fun F => by simp) (pSub (pCons Sel.hc (pApp (Sel.sc (Sel.sc Sel.ha)) (pApp (Sel.sc (Sel.sc Sel.ha)) (pCons Sel.hc (pApp (Sel.sc Sel.ha) (pCons Sel.hc (pApp Sel.ha pNil))))))))

theorem k_rollback_Engine_Next {F : Nat} {p0 : T_rollback_Engine} {p0b p0t : Nat} {p0a0 : Option Addr} {p0n0 : Nat} {p0c0 : Nat} {p0B0 : List Blk} {p0a1 : Option Addr} {p0n1 : Nat} {p0c1 : Nat} {p0B1 : List Blk} {p0_4 : T_queue_Queue} {p0_4b p0_4t : Nat} {p0_4a0 : Option Addr} {p0_4n0 : Nat} {p0_4c0 : Nat} {p0_4B0 : List Blk} {p0_5 : T_ring_Ring} {p0_5b p0_5t : Nat} {p0_5g0 : List (T_ring_place × G)} {p0_5P0 : List Blk} {r0 : (Int × Int)} {r1 : Bool} (p0N0 : p0n0 = p0.sure.Shots.length) (p0V0 : Own 80 6 p0a0 p0n0 p0c0 (flat c_T_api_Shot p0.sure.Shots) p0B0) (p0N1 : p0n1 = p0.own.length) (p0V1 : Own 40 1 p0a1 p0n1 p0c1 (flat (e1 .u8) p0.own) p0B1) (p0_4N0 : p0_4n0 = p0_4.l.length) (p0_4V0 : Own 40 1 p0_4a0 p0_4n0 p0_4c0 (flat (e1 .u8) p0_4.l) p0_4B0) (p0_5G0 : p0_5.places.1 = unG p0_5g0) (p0_5A0 : AllP sh_T_ring_place c_T_api_Shot p0_5P0 p0_5g0) (h : m_rollback_Engine_Next F p0 p0_4 p0_5 = some (r0, r1)) :
    Rd2 Tryd.prog 20 [.pointer (some ⟨p0b, 0, none⟩)] (⟨p0b, [.int .u8 p0.player, .int .i64 p0.window, .int .u64 p0.sure.Frame, .int .u64 p0.sure.Seed, .int .i32 p0.sure.Players.1.X, .int .i32 p0.sure.Players.1.Y, .int .i32 p0.sure.Players.1.VX, .int .i32 p0.sure.Players.1.VY, .int .u8 p0.sure.Players.1.Health, .int .u8 p0.sure.Players.1.Cool, .int .u8 p0.sure.Players.1.Face, .int .i32 p0.sure.Players.2.X, .int .i32 p0.sure.Players.2.Y, .int .i32 p0.sure.Players.2.VX, .int .i32 p0.sure.Players.2.VY, .int .u8 p0.sure.Players.2.Health, .int .u8 p0.sure.Players.2.Cool, .int .u8 p0.sure.Players.2.Face, .slice p0a0 p0n0 p0c0, .int .u16 p0.sure.Score.1, .int .u16 p0.sure.Score.2, .slice p0a1 p0n1 p0c1, .pointer (some ⟨p0_4b, 0, none⟩), .pointer (some ⟨p0_5b, 0, none⟩)], p0t, (0, 0)⟩ :: (p0B0 ++ (p0B1 ++ (⟨p0_4b, [.int .u64 p0_4.first_, .slice p0_4a0 p0_4n0 p0_4c0, .int .u8 p0_4.last], p0_4t, (0, 0)⟩ :: (p0_4B0 ++ (⟨p0_5b, ([.int .i64 p0_5.size] ++ flat cg_T_ring_place p0_5g0), p0_5t, (0, 0)⟩ :: (p0_5P0 ++ []))))))) (fun w => True) (.tuple #[.agg #[.int .u8 r0.1, .int .u8 r0.2], .bool r1]) := by
  unfold m_rollback_Engine_Next at h
  refine sp_of_wc Tryd.func20 rfl Tryd.ntmps20 rfl rfl (fun w0 hR => ?_)
  refine wc_seq (wc_region ?_)
  refine wl_alloc tt_ok rfl rfl (fun b2 => ?_)
  refine wl_pure tt_ok rfl rfl ?_
  refine wl_nil (wx_then (wc_seq (wc_seq ?_)))
  refine wc_quiet (by kernel_rfl) (by kernel_rfl) ?_
  refine wq_pure tt_ok rfl rfl ?_
  replace h := bsome h; obtain ⟨v5, x5, h⟩ := h
  refine wq_cq Tryd.call30 rfl rfl rfl (q_rd (k_rollback_Engine_is (p0 := p0) (p0_4 := p0_4) (p0_5 := p0_5) p0N0 p0V0 p0N1 p0V1 p0_4N0 p0_4V0 p0_5G0 p0_5A0 x5) (pCons (Sel.sc Sel.hc) (pApp (Sel.sc Sel.ha) (pApp (Sel.sc Sel.ha) (pCons (Sel.sc Sel.hc) (pApp (Sel.sc Sel.ha) (pCons (Sel.sc Sel.hc) (pApp (Sel.sc Sel.ha) pNil))))))) (fun _ _ => trivial)) rfl ?_
  refine wq_pure (v := .bool (!v5)) tt_ok rfl rfl ?_
  refine wq_pure tt_ok rfl rfl ?_
  replace h := bsome h; obtain ⟨v14, h, hg14⟩ := h
  refine wq_split (t := 7) rfl (fun hc => ?_) (fun hc => ?_)
  · replace h := ct hc h
    refine wq_skip rfl rfl ?_
    refine wq_skip rfl rfl ?_
    refine wq_skip rfl rfl ?_
    refine wq_skip rfl rfl ?_
    refine wq_skip rfl rfl ?_
    refine wq_skip rfl rfl ?_
    simp only [Option.some.injEq, Prod.mk.injEq] at h
    obtain rfl := h
    have h := hg14; clear hg14
    refine wq_pure (v := .bool true) tt_ok rfl rfl ?_
    refine wq_pure tt_ok rfl rfl ?_
    replace h := bsome h; obtain ⟨v27, h, hg27⟩ := h
    replace h := ct rfl h
    refine wq_skip rfl rfl ?_
    refine wq_skip rfl rfl ?_
    refine wq_skip rfl rfl ?_
    refine wq_skip rfl rfl ?_
    refine wq_skip rfl rfl ?_
    refine wq_skip rfl rfl ?_
    refine wq_skip rfl rfl ?_
    refine wq_skip rfl rfl ?_
    refine wq_skip rfl rfl ?_
    refine wq_skip rfl rfl ?_
    refine wq_skip rfl rfl ?_
    simp only [Option.some.injEq, Prod.mk.injEq] at h
    obtain rfl := h
    have h := hg27; clear hg27
    refine wq_pure (v := .bool true) tt_ok rfl rfl ?_
    refine wq_nil ?_
    refine wx_then ?_
    replace h := ct rfl h
    refine wc_cond_true rfl ?_
    refine wc_seq (wc_region ?_)
    refine wl_pure (v := .agg #[.int .u8 (0 : Int), .int .u8 (0 : Int)]) tt_ok rfl rfl ?_
    apply wl_store tt_ok; rfl; exact Upd.here; rfl; rfl; rfl; rfl; rfl; rfl
    refine wl_pure tt_ok rfl rfl ?_
    refine wl_nil (wx_then (wc_ret (wx_then_ret ?_)))
    simp only [Option.some.injEq, Prod.mk.injEq] at h
    obtain ⟨rfl, rfl⟩ := h
    exact wx_rd tt_ok (.inl rfl) Tryd.results20 (Res.cell rfl (List.Mem.head _) rfl (Res.tmp rfl Res.nil)) (pSub (pCons (Sel.sc Sel.hc) (pApp (Sel.sc Sel.ha) (pApp (Sel.sc Sel.ha) (pCons (Sel.sc Sel.hc) (pApp (Sel.sc Sel.ha) (pCons (Sel.sc Sel.hc) (pApp (Sel.sc Sel.ha) pNil)))))))) rfl
  replace h := cf hc h
  refine wq_run rfl ?_
  refine wq_pure tt_ok rfl rfl ?_
  refine wq_run rfl ?_
  refine wq_pure tt_ok rfl rfl ?_
  refine wq_run rfl ?_
  refine wq_pure (v := .pointer (some ⟨p0b, 21, none⟩)) tt_ok rfl rfl ?_
  refine wq_run rfl ?_
  refine wq_val (v := .slice p0a1 p0n1 p0c1) (val_load tt_ok rfl (List.Mem.tail _ (List.Mem.head _)) rfl) rfl ?_
  refine wq_run rfl ?_
  refine wq_val (v := .int .i64 (p0.own.length : Int)) (val_len tt_ok rfl rfl p0N1) rfl ?_
  refine wq_run rfl ?_
  refine wq_pure (v := .bool ((p0.own.length : Int) == (0 : Int))) tt_ok rfl rfl ?_
  simp only [Option.some.injEq, Prod.mk.injEq] at h
  obtain rfl := h
  have h := hg14; clear hg14
  refine wq_pure (v := .bool ((p0.own.length : Int) == (0 : Int))) tt_ok rfl rfl ?_
  refine wq_pure tt_ok rfl rfl ?_
  replace h := bsome h; obtain ⟨v27, h, hg27⟩ := h
  refine wq_split (t := 15) rfl (fun hc => ?_) (fun hc => ?_)
  · replace h := ct hc h
    refine wq_skip rfl rfl ?_
    refine wq_skip rfl rfl ?_
    refine wq_skip rfl rfl ?_
    refine wq_skip rfl rfl ?_
    refine wq_skip rfl rfl ?_
    refine wq_skip rfl rfl ?_
    refine wq_skip rfl rfl ?_
    refine wq_skip rfl rfl ?_
    refine wq_skip rfl rfl ?_
    refine wq_skip rfl rfl ?_
    refine wq_skip rfl rfl ?_
    simp only [Option.some.injEq, Prod.mk.injEq] at h
    obtain rfl := h
    have h := hg27; clear hg27
    refine wq_pure (v := .bool true) tt_ok rfl rfl ?_
    refine wq_nil ?_
    refine wx_then ?_
    replace h := ct rfl h
    refine wc_cond_true rfl ?_
    refine wc_seq (wc_region ?_)
    refine wl_pure (v := .agg #[.int .u8 (0 : Int), .int .u8 (0 : Int)]) tt_ok rfl rfl ?_
    apply wl_store tt_ok; rfl; exact Upd.here; rfl; rfl; rfl; rfl; rfl; rfl
    refine wl_pure tt_ok rfl rfl ?_
    refine wl_nil (wx_then (wc_ret (wx_then_ret ?_)))
    simp only [Option.some.injEq, Prod.mk.injEq] at h
    obtain ⟨rfl, rfl⟩ := h
    exact wx_rd tt_ok (.inl rfl) Tryd.results20 (Res.cell rfl (List.Mem.head _) rfl (Res.tmp rfl Res.nil)) (pSub (pCons (Sel.sc Sel.hc) (pApp (Sel.sc Sel.ha) (pApp (Sel.sc Sel.ha) (pCons (Sel.sc Sel.hc) (pApp (Sel.sc Sel.ha) (pCons (Sel.sc Sel.hc) (pApp (Sel.sc Sel.ha) pNil)))))))) rfl
  replace h := cf hc h
  refine wq_run rfl ?_
  refine wq_pure tt_ok rfl rfl ?_
  refine wq_run rfl ?_
  refine wq_pure tt_ok rfl rfl ?_
  refine wq_run rfl ?_
  refine wq_pure (v := .pointer (some ⟨p0b, 22, none⟩)) tt_ok rfl rfl ?_
  refine wq_run rfl ?_
  refine wq_val (v := .pointer (some ⟨p0_4b, 0, none⟩)) (val_load tt_ok rfl (List.Mem.tail _ (List.Mem.head _)) rfl) rfl ?_
  replace h := bsome h; obtain ⟨v20, x20, h⟩ := h
  refine wq_run rfl ?_
  refine wq_cq Tryd.call34 rfl rfl rfl (q_rd (k_queue_Queue_Known (p0 := p0_4) p0_4N0 p0_4V0 x20) (pCons (Sel.sc (Sel.sc (Sel.sa (Sel.sa Sel.hc)))) (pApp (Sel.sc (Sel.sc (Sel.sa (Sel.sa Sel.ha)))) pNil)) (fun _ _ => trivial)) rfl ?_
  refine wq_run rfl ?_
  refine wq_pure tt_ok rfl rfl ?_
  refine wq_run rfl ?_
  refine wq_pure tt_ok rfl rfl ?_
  refine wq_run rfl ?_
  refine wq_pure (v := .pointer (some ⟨p0b, 2, none⟩)) tt_ok rfl rfl ?_
  refine wq_run rfl ?_
  refine wq_pure (v := .pointer (some ⟨p0b, 2, none⟩)) tt_ok rfl rfl ?_
  refine wq_run rfl ?_
  refine wq_val (v := .int .u64 p0.sure.Frame) (val_load tt_ok rfl (List.Mem.tail _ (List.Mem.head _)) rfl) rfl ?_
  refine wq_run rfl ?_
  refine wq_pure (v := .bool (decide (v20 ≤ p0.sure.Frame))) tt_ok rfl rfl ?_
  simp only [Option.some.injEq, Prod.mk.injEq] at h
  obtain rfl := h
  have h := hg27; clear hg27
  refine wq_pure (v := .bool (decide (v20 ≤ p0.sure.Frame))) tt_ok rfl rfl ?_
  refine wq_nil ?_
  refine wx_then ?_
  refine wc_cond rfl (fun hc => ?_) (fun hc => ?_)
  · replace h := ct hc h
    refine wc_seq (wc_region ?_)
    refine wl_pure (v := .agg #[.int .u8 (0 : Int), .int .u8 (0 : Int)]) tt_ok rfl rfl ?_
    apply wl_store tt_ok; rfl; exact Upd.here; rfl; rfl; rfl; rfl; rfl; rfl
    refine wl_pure tt_ok rfl rfl ?_
    refine wl_nil (wx_then (wc_ret (wx_then_ret ?_)))
    simp only [Option.some.injEq, Prod.mk.injEq] at h
    obtain ⟨rfl, rfl⟩ := h
    exact wx_rd tt_ok (.inl rfl) Tryd.results20 (Res.cell rfl (List.Mem.head _) rfl (Res.tmp rfl Res.nil)) (pSub (pCons (Sel.sc Sel.hc) (pApp (Sel.sc Sel.ha) (pApp (Sel.sc Sel.ha) (pCons (Sel.sc Sel.hc) (pApp (Sel.sc Sel.ha) (pCons (Sel.sc Sel.hc) (pApp (Sel.sc Sel.ha) pNil)))))))) rfl
  replace h := cf hc h
  refine wc_skip (wx_then (wc_seq (wc_region ?_)))
  iterate 3 refine wl_pure tt_ok rfl rfl ?_
  refine wl_pure (v := .pointer (some ⟨p0b, 2, none⟩)) tt_ok rfl rfl ?_
  refine wl_pure (v := .pointer (some ⟨p0b, 2, none⟩)) tt_ok rfl rfl ?_
  refine wl_val (v := .int .u64 p0.sure.Frame) (val_load tt_ok rfl (List.Mem.tail _ (List.Mem.head _)) rfl) rfl ?_
  replace h := bsome h; obtain ⟨v35, x35, h⟩ := h
  refine wl_cq Tryd.call42 rfl rfl rfl (q_rd (k_rollback_Engine_pair (p0 := p0) (p0_4 := p0_4) (p0_5 := p0_5) p0N0 p0V0 p0N1 p0V1 p0_4N0 p0_4V0 p0_5G0 p0_5A0 x35) (pCons (Sel.sc Sel.hc) (pApp (Sel.sc Sel.ha) (pApp (Sel.sc Sel.ha) (pCons (Sel.sc Sel.hc) (pApp (Sel.sc Sel.ha) (pCons (Sel.sc Sel.hc) (pApp (Sel.sc Sel.ha) pNil))))))) (fun _ _ => trivial)) rfl ?_
  apply wl_store tt_ok; rfl; exact Upd.here; rfl; rfl; rfl; rfl; rfl; rfl
  refine wl_pure tt_ok rfl rfl ?_
  refine wl_nil (wx_then (wc_ret ?_))
  simp only [Option.some.injEq, Prod.mk.injEq] at h
  obtain ⟨rfl, rfl⟩ := h
  exact wx_rd tt_ok (.inl rfl) Tryd.results20 (Res.cell rfl (List.Mem.head _) rfl (Res.tmp rfl Res.nil)) (pSub (pCons (Sel.sc Sel.hc) (pApp (Sel.sc Sel.ha) (pApp (Sel.sc Sel.ha) (pCons (Sel.sc Sel.hc) (pApp (Sel.sc Sel.ha) (pCons (Sel.sc Sel.hc) (pApp (Sel.sc Sel.ha) pNil)))))))) rfl

theorem k_queue_Queue_Drop {F : Nat} {p0 : T_queue_Queue} {p0b p0t : Nat} {p0a0 : Option Addr} {p0n0 : Nat} {p0c0 : Nat} {p0B0 : List Blk} {p1 : Int} {r0 : T_queue_Queue} (p0N0 : p0n0 = p0.l.length) (p0V0 : Own 40 1 p0a0 p0n0 p0c0 (flat (e1 .u8) p0.l) p0B0) (h : m_queue_Queue_Drop F p0 p1 = some r0) :
    SpD Tryd.prog 40 [.pointer (some ⟨p0b, 0, none⟩), .int .u64 p1] (⟨p0b, [.int .u64 p0.first_, .slice p0a0 p0n0 p0c0, .int .u8 p0.last], p0t, (0, 0)⟩ :: (p0B0 ++ [])) (fun w => True) (fun v D => ∃ (r0a0 : Option Addr) (r0n0 : Nat) (r0c0 : Nat) (r0B0 : List Blk), r0n0 = r0.l.length ∧ Own 40 1 r0a0 r0n0 r0c0 (flat (e1 .u8) r0.l) r0B0 ∧ v = .tuple #[] ∧ D = fun F => (⟨p0b, [.int .u64 r0.first_, .slice r0a0 r0n0 r0c0, .int .u8 r0.last], p0t, (0, 0)⟩ :: (r0B0 ++ F))) := by
  unfold m_queue_Queue_Drop at h
  refine sp_of_wc Tryd.func40 rfl Tryd.ntmps40 rfl rfl (fun w0 hR => ?_)
  refine wc_seq (wc_seq (wc_region ?_))
  refine wl_pure tt_ok rfl rfl ?_
  refine wl_pure (v := .bool false) tt_ok rfl rfl ?_
  refine wl_pure tt_ok rfl rfl ?_
  refine wl_run rfl ?_
  refine wl_pure tt_ok rfl rfl ?_
  refine wl_run rfl ?_
  refine wl_pure tt_ok rfl rfl ?_
  refine wl_run rfl ?_
  refine wl_pure tt_ok rfl rfl ?_
  refine wl_run rfl ?_
  refine wl_pure (v := .pointer (some ⟨p0b, 0, none⟩)) tt_ok rfl rfl ?_
  refine wl_run rfl ?_
  refine wl_val (v := .int .u64 p0.first_) (val_load tt_ok rfl (List.Mem.head _) rfl) rfl ?_
  refine wl_run rfl ?_
  refine wl_pure (v := .bool (decide (p1 ≤ p0.first_))) tt_ok rfl rfl ?_
  refine wl_pure (v := .bool (decide (p1 ≤ p0.first_))) tt_ok rfl rfl ?_
  refine wl_nil (wx_then ?_)
  refine wc_cond rfl (fun hc => ?_) (fun hc => ?_)
  · replace h := ct hc h
    refine wc_ret (wx_then_ret ?_)
    simp only [Option.some.injEq] at h
    obtain rfl := h
    exact wx_spD tt_ok (.inl rfl) Tryd.results40 Res.nil ⟨p0a0, p0n0, p0c0, p0B0, p0N0, p0V0, rfl, rfl⟩ (fun F => by simp) (pSub (pCons Sel.hc (pApp Sel.ha pNil)))
  replace h := cf hc h
  refine wc_skip (wx_then (wc_seq (wc_region ?_)))
  iterate 2 refine wl_pure tt_ok rfl rfl ?_
  replace h := bsome h; obtain ⟨v17, x17, h⟩ := h
  refine wl_cq Tryd.call34 rfl rfl rfl (q_rd (k_queue_Queue_Known (p0 := p0) p0N0 p0V0 x17) (pCons Sel.hc (pApp Sel.ha pNil)) (fun _ _ => trivial)) rfl ?_
  refine wl_pure (v := .int .u64 (min p1 v17)) tt_ok rfl rfl ?_
  refine wl_pure tt_ok rfl rfl ?_
  refine wl_nil (wx_then (wc_seq ?_))
  refine wc_k2 (Ls := (⟨p0b, [.int .u64 p0.first_, .slice p0a0 p0n0 p0c0, .int .u8 p0.last], p0t, (0, 0)⟩ :: (p0B0 ++ []))) [15, 16] [15, 16] [0, 1, 3, 7, 0, 16, 48, 112, 0, 0, 512, 1536, 3584, 7936, 16368, 32767, 65535] [0, 1, 2, 3, 4, 5, 6, 7, 8, 9, 10, 11, 12, 13, 14, 15, 16] (by kernel_rfl) (by kernel_rfl) (by kernel_rfl) ?_
  refine k_val rfl rfl rfl (pSub (pCons Sel.hc (pApp Sel.ha pNil))) (stepV_ok tt_ok rfl) rfl ?_
  refine k_val rfl rfl rfl (pSub (pCons Sel.hc (pApp Sel.ha pNil))) (stepV_ok tt_ok rfl) rfl ?_
  refine k_val (v := .pointer (some ⟨p0b, 1, none⟩)) rfl rfl rfl (pSub (pCons Sel.hc (pApp Sel.ha pNil))) (stepV_ok tt_ok rfl) rfl ?_
  refine k_val (v := .slice p0a0 p0n0 p0c0) rfl rfl rfl (pSub (pCons Sel.hc (pApp Sel.ha pNil))) (val_load tt_ok rfl (List.Mem.head _) rfl) rfl ?_
  refine k_val rfl rfl rfl (pSub (pCons Sel.hc (pApp Sel.ha pNil))) (stepV_ok tt_ok rfl) rfl ?_
  refine k_val rfl rfl rfl (pSub (pCons Sel.hc (pApp Sel.ha pNil))) (stepV_ok tt_ok rfl) rfl ?_
  refine k_val (v := .pointer (some ⟨p0b, 1, none⟩)) rfl rfl rfl (pSub (pCons Sel.hc (pApp Sel.ha pNil))) (stepV_ok tt_ok rfl) rfl ?_
  refine k_val (v := .slice p0a0 p0n0 p0c0) rfl rfl rfl (pSub (pCons Sel.hc (pApp Sel.ha pNil))) (val_load tt_ok rfl (List.Mem.head _) rfl) rfl ?_
  refine k_val rfl rfl rfl (pSub (pCons Sel.hc (pApp Sel.ha pNil))) (stepV_ok tt_ok rfl) rfl ?_
  refine k_val rfl rfl rfl (pSub (pCons Sel.hc (pApp Sel.ha pNil))) (stepV_ok tt_ok rfl) rfl ?_
  refine k_val rfl rfl rfl (pSub (pCons Sel.hc (pApp Sel.ha pNil))) (stepV_ok tt_ok rfl) rfl ?_
  refine k_val (v := .pointer (some ⟨p0b, 0, none⟩)) rfl rfl rfl (pSub (pCons Sel.hc (pApp Sel.ha pNil))) (stepV_ok tt_ok rfl) rfl ?_
  refine k_val (v := .int .u64 p0.first_) rfl rfl rfl (pSub (pCons Sel.hc (pApp Sel.ha pNil))) (val_load tt_ok rfl (List.Mem.head _) rfl) rfl ?_
  refine k_val (v := .int .u64 (IntKind.wrap .u64 ((min p1 v17) - p0.first_))) rfl rfl rfl (pSub (pCons Sel.hc (pApp Sel.ha pNil))) (stepV_ok tt_ok rfl) rfl ?_
  replace h := bsome h; obtain ⟨v33, x33, h⟩ := h
  refine k_cut (enc := (e1 .u8)) rfl rfl rfl (pSub (pCons Sel.hc (pApp Sel.ha pNil))) tt_ok rfl rfl rfl p0N0 (vec_some p0V0) (e1_len _) (vec_cap p0V0) (.inr ⟨_, _, rfl, rfl⟩) (.inl ⟨rfl, by rw [p0N0]⟩) (.inl ⟨rfl, rfl⟩) (by intro h; first | rfl | cases h) (cut2 x33 p0N0 (vec_cap p0V0)) x33 rfl ?_
  intro a33 n33_ c33 N33 H33 I33 O33 Z33
  refine k_chg rfl rfl rfl (chg_copy (enc := (e1 .u8)) (ys := v33) tt_ok rfl rfl rfl rfl p0N0 N33 p0V0 (Sel.sc Sel.ha) (Rds.of_vec (O33 _ rfl p0V0)) ⟨_, (Sel.sc Sel.ha)⟩ (e1_len _) (fun _ => rfl)) rfl (.inl rfl) ?_
  rintro _ _ ⟨Bk10_15, rfl, Nk10_15, Vk10_15, rfl⟩
  refine k_chg rfl rfl rfl (Chg.of_val (stepV_ok tt_ok rfl)) rfl (.inl rfl) ?_
  rintro _ _ ⟨rfl, rfl⟩
  refine k_end (by kernel_rfl) ?_
  refine wx_then (wc_region ?_)
  iterate 4 refine wl_pure tt_ok rfl rfl ?_
  refine wl_pure (v := .pointer (some ⟨p0b, 1, none⟩)) tt_ok rfl rfl ?_
  refine wl_val (v := .slice p0a0 p0n0 p0c0) (val_load tt_ok rfl (mR (List.Mem.head _)) rfl) rfl ?_
  refine wl_pure tt_ok rfl rfl ?_
  replace h := bsome h; obtain ⟨v42, x42, h⟩ := h
  refine wl_cut (enc := (e1 .u8)) tt_ok rfl rfl rfl Nk10_15 (vec_some Vk10_15) (e1_len _) (vec_cap Vk10_15) (.inl ⟨rfl, rfl⟩) (.inr ⟨_, _, rfl, rfl⟩) (.inl ⟨rfl, rfl⟩) (by intro h; first | rfl | cases h) (cut2 x42 Nk10_15 (vec_cap Vk10_15)) x42 rfl ?_
  intro a42 n42_ c42 N42 H42 I42 O42 Z42
  iterate 2 refine wl_pure tt_ok rfl rfl ?_
  refine wl_pure (v := .pointer (some ⟨p0b, 1, none⟩)) tt_ok rfl rfl ?_
  apply wl_store tt_ok; rfl; exact (Upd.right Upd.here); rfl; rfl; rfl; rfl; rfl; rfl
  refine wl_pure tt_ok rfl rfl ?_
  refine wl_pure (v := .pointer (some ⟨p0b, 0, none⟩)) tt_ok rfl rfl ?_
  apply wl_store tt_ok; rfl; exact (Upd.right Upd.here); rfl; rfl; rfl; rfl; rfl; rfl
  refine wl_nil ?_
  simp only [Option.some.injEq] at h
  obtain rfl := h
  exact wx_spD tt_ok (.inr rfl) Tryd.results40 Res.nil ⟨a42, n42_, c42, Bk10_15, N42, (O42 _ rfl Vk10_15), rfl, rfl⟩ (fun F => by simp) (pSub (pCons (Sel.sa Sel.hc) (pApp Sel.ha pNil)))

theorem k_rollback_Engine_Confirm {F : Nat} {p0 : T_rollback_Engine} {p0b p0t : Nat} {p0a0 : Option Addr} {p0n0 : Nat} {p0c0 : Nat} {p0B0 : List Blk} {p0a1 : Option Addr} {p0n1 : Nat} {p0c1 : Nat} {p0B1 : List Blk} {p0_4 : T_queue_Queue} {p0_4b p0_4t : Nat} {p0_4a0 : Option Addr} {p0_4n0 : Nat} {p0_4c0 : Nat} {p0_4B0 : List Blk} {p0_5 : T_ring_Ring} {p0_5b p0_5t : Nat} {p0_5g0 : List (T_ring_place × G)} {p0_5P0 : List Blk} {p1 : Int} {r0 : T_rollback_Engine} {r1 : T_queue_Queue} {r2 : T_ring_Ring} {r3 : (Int × Int)} {r4 : Bool} (p0N0 : p0n0 = p0.sure.Shots.length) (p0V0 : Own 80 6 p0a0 p0n0 p0c0 (flat c_T_api_Shot p0.sure.Shots) p0B0) (p0N1 : p0n1 = p0.own.length) (p0V1 : Own 40 1 p0a1 p0n1 p0c1 (flat (e1 .u8) p0.own) p0B1) (p0_4N0 : p0_4n0 = p0_4.l.length) (p0_4V0 : Own 40 1 p0_4a0 p0_4n0 p0_4c0 (flat (e1 .u8) p0_4.l) p0_4B0) (p0_5G0 : p0_5.places.1 = unG p0_5g0) (p0_5A0 : AllP sh_T_ring_place c_T_api_Shot p0_5P0 p0_5g0) (h : m_rollback_Engine_Confirm F p0 p0_4 p0_5 p1 = some (r0, r1, r2, r3, r4)) :
    SpD Tryd.prog 13 [.pointer (some ⟨p0b, 0, none⟩), .int .u64 p1] (⟨p0b, [.int .u8 p0.player, .int .i64 p0.window, .int .u64 p0.sure.Frame, .int .u64 p0.sure.Seed, .int .i32 p0.sure.Players.1.X, .int .i32 p0.sure.Players.1.Y, .int .i32 p0.sure.Players.1.VX, .int .i32 p0.sure.Players.1.VY, .int .u8 p0.sure.Players.1.Health, .int .u8 p0.sure.Players.1.Cool, .int .u8 p0.sure.Players.1.Face, .int .i32 p0.sure.Players.2.X, .int .i32 p0.sure.Players.2.Y, .int .i32 p0.sure.Players.2.VX, .int .i32 p0.sure.Players.2.VY, .int .u8 p0.sure.Players.2.Health, .int .u8 p0.sure.Players.2.Cool, .int .u8 p0.sure.Players.2.Face, .slice p0a0 p0n0 p0c0, .int .u16 p0.sure.Score.1, .int .u16 p0.sure.Score.2, .slice p0a1 p0n1 p0c1, .pointer (some ⟨p0_4b, 0, none⟩), .pointer (some ⟨p0_5b, 0, none⟩)], p0t, (0, 0)⟩ :: (p0B0 ++ (p0B1 ++ (⟨p0_4b, [.int .u64 p0_4.first_, .slice p0_4a0 p0_4n0 p0_4c0, .int .u8 p0_4.last], p0_4t, (0, 0)⟩ :: (p0_4B0 ++ (⟨p0_5b, ([.int .i64 p0_5.size] ++ flat cg_T_ring_place p0_5g0), p0_5t, (0, 0)⟩ :: (p0_5P0 ++ []))))))) (fun w => Rds w (ids (⟨p0b, [.int .u8 p0.player, .int .i64 p0.window, .int .u64 p0.sure.Frame, .int .u64 p0.sure.Seed, .int .i32 p0.sure.Players.1.X, .int .i32 p0.sure.Players.1.Y, .int .i32 p0.sure.Players.1.VX, .int .i32 p0.sure.Players.1.VY, .int .u8 p0.sure.Players.1.Health, .int .u8 p0.sure.Players.1.Cool, .int .u8 p0.sure.Players.1.Face, .int .i32 p0.sure.Players.2.X, .int .i32 p0.sure.Players.2.Y, .int .i32 p0.sure.Players.2.VX, .int .i32 p0.sure.Players.2.VY, .int .u8 p0.sure.Players.2.Health, .int .u8 p0.sure.Players.2.Cool, .int .u8 p0.sure.Players.2.Face, .slice p0a0 p0n0 p0c0, .int .u16 p0.sure.Score.1, .int .u16 p0.sure.Score.2, .slice p0a1 p0n1 p0c1, .pointer (some ⟨p0_4b, 0, none⟩), .pointer (some ⟨p0_5b, 0, none⟩)], p0t, (0, 0)⟩ :: (p0B0 ++ (p0B1 ++ (⟨p0_4b, [.int .u64 p0_4.first_, .slice p0_4a0 p0_4n0 p0_4c0, .int .u8 p0_4.last], p0_4t, (0, 0)⟩ :: (p0_4B0 ++ (⟨p0_5b, ([.int .i64 p0_5.size] ++ flat cg_T_ring_place p0_5g0), p0_5t, (0, 0)⟩ :: (p0_5P0 ++ [])))))))) [] (some ⟨0, 0, none⟩) (flat (fun _ : Unit => gl_state_playerBounds) [()]) ∧ Rds w (ids (⟨p0b, [.int .u8 p0.player, .int .i64 p0.window, .int .u64 p0.sure.Frame, .int .u64 p0.sure.Seed, .int .i32 p0.sure.Players.1.X, .int .i32 p0.sure.Players.1.Y, .int .i32 p0.sure.Players.1.VX, .int .i32 p0.sure.Players.1.VY, .int .u8 p0.sure.Players.1.Health, .int .u8 p0.sure.Players.1.Cool, .int .u8 p0.sure.Players.1.Face, .int .i32 p0.sure.Players.2.X, .int .i32 p0.sure.Players.2.Y, .int .i32 p0.sure.Players.2.VX, .int .i32 p0.sure.Players.2.VY, .int .u8 p0.sure.Players.2.Health, .int .u8 p0.sure.Players.2.Cool, .int .u8 p0.sure.Players.2.Face, .slice p0a0 p0n0 p0c0, .int .u16 p0.sure.Score.1, .int .u16 p0.sure.Score.2, .slice p0a1 p0n1 p0c1, .pointer (some ⟨p0_4b, 0, none⟩), .pointer (some ⟨p0_5b, 0, none⟩)], p0t, (0, 0)⟩ :: (p0B0 ++ (p0B1 ++ (⟨p0_4b, [.int .u64 p0_4.first_, .slice p0_4a0 p0_4n0 p0_4c0, .int .u8 p0_4.last], p0_4t, (0, 0)⟩ :: (p0_4B0 ++ (⟨p0_5b, ([.int .i64 p0_5.size] ++ flat cg_T_ring_place p0_5g0), p0_5t, (0, 0)⟩ :: (p0_5P0 ++ [])))))))) [] (some ⟨1, 0, none⟩) (flat (fun _ : Unit => gl_state_shotBounds) [()])) (fun v D => ∃ (r0a0 : Option Addr) (r0n0 : Nat) (r0c0 : Nat) (r0B0 : List Blk) (r0a1 : Option Addr) (r0n1 : Nat) (r0c1 : Nat) (r0B1 : List Blk) (r1a0 : Option Addr) (r1n0 : Nat) (r1c0 : Nat) (r1B0 : List Blk) (r2g0 : List (T_ring_place × G)) (r2P0 : List Blk), r0n0 = r0.sure.Shots.length ∧ Own 80 6 r0a0 r0n0 r0c0 (flat c_T_api_Shot r0.sure.Shots) r0B0 ∧ r0n1 = r0.own.length ∧ Own 40 1 r0a1 r0n1 r0c1 (flat (e1 .u8) r0.own) r0B1 ∧ r1n0 = r1.l.length ∧ Own 40 1 r1a0 r1n0 r1c0 (flat (e1 .u8) r1.l) r1B0 ∧ r2.places.1 = unG r2g0 ∧ AllP sh_T_ring_place c_T_api_Shot r2P0 r2g0 ∧ v = .tuple #[.agg #[.int .u8 r3.1, .int .u8 r3.2], .bool r4] ∧ D = fun F => (⟨p0b, [.int .u8 r0.player, .int .i64 r0.window, .int .u64 r0.sure.Frame, .int .u64 r0.sure.Seed, .int .i32 r0.sure.Players.1.X, .int .i32 r0.sure.Players.1.Y, .int .i32 r0.sure.Players.1.VX, .int .i32 r0.sure.Players.1.VY, .int .u8 r0.sure.Players.1.Health, .int .u8 r0.sure.Players.1.Cool, .int .u8 r0.sure.Players.1.Face, .int .i32 r0.sure.Players.2.X, .int .i32 r0.sure.Players.2.Y, .int .i32 r0.sure.Players.2.VX, .int .i32 r0.sure.Players.2.VY, .int .u8 r0.sure.Players.2.Health, .int .u8 r0.sure.Players.2.Cool, .int .u8 r0.sure.Players.2.Face, .slice r0a0 r0n0 r0c0, .int .u16 r0.sure.Score.1, .int .u16 r0.sure.Score.2, .slice r0a1 r0n1 r0c1, .pointer (some ⟨p0_4b, 0, none⟩), .pointer (some ⟨p0_5b, 0, none⟩)], p0t, (0, 0)⟩ :: (r0B0 ++ (r0B1 ++ (⟨p0_4b, [.int .u64 r1.first_, .slice r1a0 r1n0 r1c0, .int .u8 r1.last], p0_4t, (0, 0)⟩ :: (r1B0 ++ (⟨p0_5b, ([.int .i64 r2.size] ++ flat cg_T_ring_place r2g0), p0_5t, (0, 0)⟩ :: (r2P0 ++ F)))))))) := by
  unfold m_rollback_Engine_Confirm at h
  refine sp_of_wc Tryd.func13 rfl Tryd.ntmps13 rfl rfl (fun w0 hR => ?_)
  obtain ⟨G0S, G1S⟩ := hR
  refine wc_seq (wc_region ?_)
  refine wl_alloc tt_ok rfl rfl (fun b4 => ?_)
  refine wl_pure tt_ok rfl rfl ?_
  refine wl_nil (wx_then (wc_seq (wc_region ?_)))
  refine wl_pure tt_ok rfl rfl ?_
  replace h := bsome h; obtain ⟨⟨v10_0, v10_1⟩, x10, h⟩ := h; try dsimp only at h
  refine wl_cq Tryd.call20 rfl rfl rfl (q_rd (k_rollback_Engine_Next (p0 := p0) (p0_4 := p0_4) (p0_5 := p0_5) p0N0 p0V0 p0N1 p0V1 p0_4N0 p0_4V0 p0_5G0 p0_5A0 x10) (pCons (Sel.sc Sel.hc) (pApp (Sel.sc Sel.ha) (pApp (Sel.sc Sel.ha) (pCons (Sel.sc Sel.hc) (pApp (Sel.sc Sel.ha) (pCons (Sel.sc Sel.hc) (pApp (Sel.sc Sel.ha) pNil))))))) (fun _ _ => trivial)) rfl ?_
  iterate 3 refine wl_pure tt_ok rfl rfl ?_
  refine wl_alloc tt_ok rfl rfl (fun b6 => ?_)
  apply wl_store tt_ok; rfl; exact Upd.here; rfl; rfl; rfl; rfl; rfl; rfl
  refine wl_pure tt_ok rfl rfl ?_
  refine wl_nil (wx_then (wc_seq (wc_seq (wc_region ?_))))
  refine wl_pure tt_ok rfl rfl ?_
  refine wl_pure (v := .bool (!v10_1)) tt_ok rfl rfl ?_
  refine wl_pure tt_ok rfl rfl ?_
  replace h := bsome h; obtain ⟨v23, h, hg23⟩ := h
  refine wl_split (t := 15) rfl (fun hc => ?_) (fun hc => ?_)
  · replace h := ct hc h
    refine wl_skip rfl rfl ?_
    refine wl_skip rfl rfl ?_
    refine wl_skip rfl rfl ?_
    refine wl_skip rfl rfl ?_
    refine wl_skip rfl rfl ?_
    refine wl_skip rfl rfl ?_
    refine wl_skip rfl rfl ?_
    simp only [Option.some.injEq, Prod.mk.injEq] at h
    obtain rfl := h
    have h := hg23; clear hg23
    refine wl_pure (v := .bool true) tt_ok rfl rfl ?_
    refine wl_nil (wx_then ?_)
    replace h := ct rfl h
    refine wc_cond_true rfl ?_
    refine wc_seq (wc_region ?_)
    refine wl_pure (v := .agg #[.int .u8 (0 : Int), .int .u8 (0 : Int)]) tt_ok rfl rfl ?_
    apply wl_store tt_ok; rfl; exact (Upd.there Upd.here); rfl; rfl; rfl; rfl; rfl; rfl
    refine wl_pure tt_ok rfl rfl ?_
    refine wl_nil (wx_then (wc_ret (wx_then_ret ?_)))
    simp only [Option.some.injEq, Prod.mk.injEq] at h
    obtain ⟨rfl, rfl, rfl, rfl, rfl⟩ := h
    exact wx_spD tt_ok (.inl rfl) Tryd.results13 (Res.cell rfl (List.Mem.tail _ (List.Mem.head _)) rfl (Res.tmp rfl Res.nil)) ⟨p0a0, p0n0, p0c0, p0B0, p0a1, p0n1, p0c1, p0B1, p0_4a0, p0_4n0, p0_4c0, p0_4B0, p0_5g0, p0_5P0, p0N0, p0V0, p0N1, p0V1, p0_4N0, p0_4V0, p0_5G0, p0_5A0, rfl, rfl⟩ (fun F => by simp) (pSub (pCons (Sel.sc (Sel.sc Sel.hc)) (pApp (Sel.sc (Sel.sc Sel.ha)) (pApp (Sel.sc (Sel.sc Sel.ha)) (pCons (Sel.sc (Sel.sc Sel.hc)) (pApp (Sel.sc (Sel.sc Sel.ha)) (pCons (Sel.sc (Sel.sc Sel.hc)) (pApp (Sel.sc (Sel.sc Sel.ha)) pNil))))))))
  replace h := cf hc h
  refine wl_run rfl ?_
  refine wl_pure tt_ok rfl rfl ?_
  refine wl_run rfl ?_
  refine wl_pure tt_ok rfl rfl ?_
  refine wl_run rfl ?_
  refine wl_pure (v := .pointer (some ⟨p0b, 2, none⟩)) tt_ok rfl rfl ?_
  refine wl_run rfl ?_
  refine wl_pure (v := .pointer (some ⟨p0b, 2, none⟩)) tt_ok rfl rfl ?_
  refine wl_run rfl ?_
  refine wl_val (v := .int .u64 p0.sure.Frame) (val_load tt_ok rfl (List.Mem.tail _ (List.Mem.tail _ (List.Mem.head _))) rfl) rfl ?_
  refine wl_run rfl ?_
  refine wl_pure tt_ok rfl rfl ?_
  refine wl_run rfl ?_
  refine wl_pure (v := .bool (decide (p1 ≤ p0.sure.Frame))) tt_ok rfl rfl ?_
  simp only [Option.some.injEq, Prod.mk.injEq] at h
  obtain rfl := h
  have h := hg23; clear hg23
  refine wl_pure (v := .bool (decide (p1 ≤ p0.sure.Frame))) tt_ok rfl rfl ?_
  refine wl_nil (wx_then ?_)
  refine wc_cond rfl (fun hc => ?_) (fun hc => ?_)
  · replace h := ct hc h
    refine wc_seq (wc_region ?_)
    refine wl_pure (v := .agg #[.int .u8 (0 : Int), .int .u8 (0 : Int)]) tt_ok rfl rfl ?_
    apply wl_store tt_ok; rfl; exact (Upd.there Upd.here); rfl; rfl; rfl; rfl; rfl; rfl
    refine wl_pure tt_ok rfl rfl ?_
    refine wl_nil (wx_then (wc_ret (wx_then_ret ?_)))
    simp only [Option.some.injEq, Prod.mk.injEq] at h
    obtain ⟨rfl, rfl, rfl, rfl, rfl⟩ := h
    exact wx_spD tt_ok (.inl rfl) Tryd.results13 (Res.cell rfl (List.Mem.tail _ (List.Mem.head _)) rfl (Res.tmp rfl Res.nil)) ⟨p0a0, p0n0, p0c0, p0B0, p0a1, p0n1, p0c1, p0B1, p0_4a0, p0_4n0, p0_4c0, p0_4B0, p0_5g0, p0_5P0, p0N0, p0V0, p0N1, p0V1, p0_4N0, p0_4V0, p0_5G0, p0_5A0, rfl, rfl⟩ (fun F => by simp) (pSub (pCons (Sel.sc (Sel.sc Sel.hc)) (pApp (Sel.sc (Sel.sc Sel.ha)) (pApp (Sel.sc (Sel.sc Sel.ha)) (pCons (Sel.sc (Sel.sc Sel.hc)) (pApp (Sel.sc (Sel.sc Sel.ha)) (pCons (Sel.sc (Sel.sc Sel.hc)) (pApp (Sel.sc (Sel.sc Sel.ha)) pNil))))))))
  replace h := cf hc h
  refine wc_skip (wx_then (wc_seq ?_))
  refine wc_k2 (Ls := (⟨b6, [.int .u8 v10_0.1, .int .u8 v10_0.2], 45, (0, 0)⟩ :: (⟨b4, [.int .u8 (0 : Int), .int .u8 (0 : Int)], 45, (0, 0)⟩ :: (⟨p0b, [.int .u8 p0.player, .int .i64 p0.window, .int .u64 p0.sure.Frame, .int .u64 p0.sure.Seed, .int .i32 p0.sure.Players.1.X, .int .i32 p0.sure.Players.1.Y, .int .i32 p0.sure.Players.1.VX, .int .i32 p0.sure.Players.1.VY, .int .u8 p0.sure.Players.1.Health, .int .u8 p0.sure.Players.1.Cool, .int .u8 p0.sure.Players.1.Face, .int .i32 p0.sure.Players.2.X, .int .i32 p0.sure.Players.2.Y, .int .i32 p0.sure.Players.2.VX, .int .i32 p0.sure.Players.2.VY, .int .u8 p0.sure.Players.2.Health, .int .u8 p0.sure.Players.2.Cool, .int .u8 p0.sure.Players.2.Face, .slice p0a0 p0n0 p0c0, .int .u16 p0.sure.Score.1, .int .u16 p0.sure.Score.2, .slice p0a1 p0n1 p0c1, .pointer (some ⟨p0_4b, 0, none⟩), .pointer (some ⟨p0_5b, 0, none⟩)], p0t, (0, 0)⟩ :: (p0B0 ++ (p0B1 ++ (⟨p0_4b, [.int .u64 p0_4.first_, .slice p0_4a0 p0_4n0 p0_4c0, .int .u8 p0_4.last], p0_4t, (0, 0)⟩ :: (p0_4B0 ++ (⟨p0_5b, ([.int .i64 p0_5.size] ++ flat cg_T_ring_place p0_5g0), p0_5t, (0, 0)⟩ :: (p0_5P0 ++ [])))))))))) [6, 7, 8, 9] [7, 8, 9] [0, 0, 2, 6, 14, 0, 62, 127, 255, 511] [0, 1, 2, 3, 4, 5, 6, 7, 8, 9] (by kernel_rfl) (by kernel_rfl) (by kernel_rfl) ?_
  refine k_val rfl rfl rfl (pSub (pCons Sel.hc (pCons Sel.hc (pCons Sel.hc (pApp Sel.ha (pApp Sel.ha (pCons Sel.hc (pApp Sel.ha (pCons Sel.hc (pApp Sel.ha pNil)))))))))) (stepV_ok tt_ok rfl) rfl ?_
  refine k_val rfl rfl rfl (pSub (pCons Sel.hc (pCons Sel.hc (pCons Sel.hc (pApp Sel.ha (pApp Sel.ha (pCons Sel.hc (pApp Sel.ha (pCons Sel.hc (pApp Sel.ha pNil)))))))))) (stepV_ok tt_ok rfl) rfl ?_
  refine k_val rfl rfl rfl (pSub (pCons Sel.hc (pCons Sel.hc (pCons Sel.hc (pApp Sel.ha (pApp Sel.ha (pCons Sel.hc (pApp Sel.ha (pCons Sel.hc (pApp Sel.ha pNil)))))))))) (stepV_ok tt_ok rfl) rfl ?_
  refine k_val (v := .pointer (some ⟨p0b, 2, none⟩)) rfl rfl rfl (pSub (pCons Sel.hc (pCons Sel.hc (pCons Sel.hc (pApp Sel.ha (pApp Sel.ha (pCons Sel.hc (pApp Sel.ha (pCons Sel.hc (pApp Sel.ha pNil)))))))))) (stepV_ok tt_ok rfl) rfl ?_
  refine k_val (v := .agg #[.int .u64 p0.sure.Frame, .int .u64 p0.sure.Seed, .int .i32 p0.sure.Players.1.X, .int .i32 p0.sure.Players.1.Y, .int .i32 p0.sure.Players.1.VX, .int .i32 p0.sure.Players.1.VY, .int .u8 p0.sure.Players.1.Health, .int .u8 p0.sure.Players.1.Cool, .int .u8 p0.sure.Players.1.Face, .int .i32 p0.sure.Players.2.X, .int .i32 p0.sure.Players.2.Y, .int .i32 p0.sure.Players.2.VX, .int .i32 p0.sure.Players.2.VY, .int .u8 p0.sure.Players.2.Health, .int .u8 p0.sure.Players.2.Cool, .int .u8 p0.sure.Players.2.Face, .slice p0a0 p0n0 p0c0, .int .u16 p0.sure.Score.1, .int .u16 p0.sure.Score.2]) rfl rfl rfl (pSub (pCons Sel.hc (pCons Sel.hc (pCons Sel.hc (pApp Sel.ha (pApp Sel.ha (pCons Sel.hc (pApp Sel.ha (pCons Sel.hc (pApp Sel.ha pNil)))))))))) (val_load tt_ok rfl (List.Mem.tail _ (List.Mem.tail _ (List.Mem.head _))) rfl) rfl ?_
  refine k_val (v := .agg #[.int .u8 v10_0.1, .int .u8 v10_0.2]) rfl rfl rfl (pSub (pCons Sel.hc (pCons Sel.hc (pCons Sel.hc (pApp Sel.ha (pApp Sel.ha (pCons Sel.hc (pApp Sel.ha (pCons Sel.hc (pApp Sel.ha pNil)))))))))) (val_load tt_ok rfl (List.Mem.head _) rfl) rfl ?_
  replace h := bsome h; obtain ⟨v31, x31, h⟩ := h
  refine k_cs rfl rfl rfl Tryd.call38 rfl rfl rfl (s_sp (k_step_Step (p0 := p0.sure) p0N0 (vec_cap p0V0) x31) pNil (fun w hI => ⟨(Rds.call (Rds.of_vec p0V0) pNil ⟨_, (Sel.sc (Sel.sc (Sel.sc Sel.ha)))⟩) w hI, (Rds.call G0S pNil rsub_nil) w hI, (Rds.call G1S pNil rsub_nil) w hI⟩)) rfl (.inr (by rintro _ _ ⟨_, ⟨_, _, _, _, _, _, rfl, rfl⟩, rfl⟩; exact ⟨_, (pCons (Sel.sa Sel.hc) (pCons (Sel.sa Sel.hc) (pCons (Sel.sa Sel.hc) (pApp (Sel.sa Sel.ha) (pApp (Sel.sa Sel.ha) (pCons (Sel.sa Sel.hc) (pApp (Sel.sa Sel.ha) (pCons (Sel.sa Sel.hc) (pApp (Sel.sa Sel.ha) pNil)))))))))⟩)) ?_
  rintro _ _ ⟨_, ⟨v31a0, v31n0, v31c0, v31B0, v31N0, v31V0, rfl, rfl⟩, rfl⟩
  refine k_chg rfl rfl rfl (Chg.of_val (stepV_ok tt_ok rfl)) rfl (.inl rfl) ?_
  rintro _ _ ⟨rfl, rfl⟩
  refine k_chg rfl rfl rfl (Chg.of_val (v := .pointer (some ⟨p0b, 2, none⟩)) (stepV_ok tt_ok rfl)) rfl (.inl rfl) ?_
  rintro _ _ ⟨rfl, rfl⟩
  refine k_chg0 rfl rfl rfl (chg_store tt_ok rfl (Upd.right (Upd.there (Upd.there Upd.here))) rfl rfl rfl rfl rfl rfl) (.inl rfl) ?_
  rintro _ _ rfl
  refine k_end (by kernel_rfl) ?_
  refine wx_then (wc_seq (wc_region ?_))
  iterate 3 refine wl_pure tt_ok rfl rfl ?_
  refine wl_pure (v := .pointer (some ⟨p0b, 21, none⟩)) tt_ok rfl rfl ?_
  refine wl_val (v := .slice p0a1 p0n1 p0c1) (val_load tt_ok rfl (mR (List.Mem.tail _ (List.Mem.tail _ (List.Mem.head _)))) rfl) rfl ?_
  replace h := bsome h; obtain ⟨v39, x39, h⟩ := h
  refine wl_cut (enc := (e1 .u8)) tt_ok rfl rfl rfl p0N1 (vec_some p0V1) (e1_len _) (vec_cap p0V1) (.inr ⟨_, _, rfl, rfl⟩) (.inl ⟨rfl, by rw [p0N1]⟩) (.inl ⟨rfl, rfl⟩) (by intro h; first | rfl | cases h) (cut2 x39 p0N1 (vec_cap p0V1)) x39 rfl ?_
  intro a39 n39_ c39 N39 H39 I39 O39 Z39
  replace h := bsome h; obtain ⟨v40, x40, h⟩ := h
  refine wl_cs Tryd.call39 rfl rfl rfl (s_sp (k_slices_Clone___api_Input_api_Input (p0 := v39) N39 H39 x40) pNil (Rds.call (Rds.of_vec (O39 _ rfl p0V1)) pNil ⟨_, (Sel.sa (Sel.sc (Sel.sc (Sel.sc (Sel.sa Sel.ha)))))⟩)) rfl ?_
  rintro _ _ ⟨_, ⟨v40a0, v40n0, v40c0, v40B0, v40N0, v40V0, rfl, rfl⟩, rfl⟩
  refine wl_pure tt_ok rfl rfl ?_
  refine wl_pure (v := .pointer (some ⟨p0b, 21, none⟩)) tt_ok rfl rfl ?_
  apply wl_store tt_ok; rfl; exact (Upd.right (Upd.right (Upd.there (Upd.there Upd.here)))); rfl; rfl; rfl; rfl; rfl; rfl
  refine wl_nil (wx_then (wc_seq ?_))
  refine wc_k2 (Ls := (v40B0 ++ (v31B0 ++ (⟨b6, [.int .u8 v10_0.1, .int .u8 v10_0.2], 45, (0, 0)⟩ :: (⟨b4, [.int .u8 (0 : Int), .int .u8 (0 : Int)], 45, (0, 0)⟩ :: (⟨p0b, [.int .u8 p0.player, .int .i64 p0.window, .int .u64 v31.Frame, .int .u64 v31.Seed, .int .i32 v31.Players.1.X, .int .i32 v31.Players.1.Y, .int .i32 v31.Players.1.VX, .int .i32 v31.Players.1.VY, .int .u8 v31.Players.1.Health, .int .u8 v31.Players.1.Cool, .int .u8 v31.Players.1.Face, .int .i32 v31.Players.2.X, .int .i32 v31.Players.2.Y, .int .i32 v31.Players.2.VX, .int .i32 v31.Players.2.VY, .int .u8 v31.Players.2.Health, .int .u8 v31.Players.2.Cool, .int .u8 v31.Players.2.Face, .slice v31a0 v31n0 v31c0, .int .u16 v31.Score.1, .int .u16 v31.Score.2, .slice v40a0 v40n0 v40c0, .pointer (some ⟨p0_4b, 0, none⟩), .pointer (some ⟨p0_5b, 0, none⟩)], p0t, (0, 0)⟩ :: (p0B0 ++ (p0B1 ++ (⟨p0_4b, [.int .u64 p0_4.first_, .slice p0_4a0 p0_4n0 p0_4c0, .int .u8 p0_4.last], p0_4t, (0, 0)⟩ :: (p0_4B0 ++ (⟨p0_5b, ([.int .i64 p0_5.size] ++ flat cg_T_ring_place p0_5g0), p0_5t, (0, 0)⟩ :: (p0_5P0 ++ [])))))))))))) [9] [9] [0, 1, 3, 7, 0, 16, 48, 112, 240, 511] [0, 1, 2, 3, 4, 5, 6, 7, 8, 9] (by kernel_rfl) (by kernel_rfl) (by kernel_rfl) ?_
  refine k_val rfl rfl rfl (pSub (pApp Sel.ha (pApp Sel.ha (pCons Sel.hc (pCons Sel.hc (pCons Sel.hc (pApp Sel.ha (pApp Sel.ha (pCons Sel.hc (pApp Sel.ha (pCons Sel.hc (pApp Sel.ha pNil)))))))))))) (stepV_ok tt_ok rfl) rfl ?_
  refine k_val rfl rfl rfl (pSub (pApp Sel.ha (pApp Sel.ha (pCons Sel.hc (pCons Sel.hc (pCons Sel.hc (pApp Sel.ha (pApp Sel.ha (pCons Sel.hc (pApp Sel.ha (pCons Sel.hc (pApp Sel.ha pNil)))))))))))) (stepV_ok tt_ok rfl) rfl ?_
  refine k_val (v := .pointer (some ⟨p0b, 22, none⟩)) rfl rfl rfl (pSub (pApp Sel.ha (pApp Sel.ha (pCons Sel.hc (pCons Sel.hc (pCons Sel.hc (pApp Sel.ha (pApp Sel.ha (pCons Sel.hc (pApp Sel.ha (pCons Sel.hc (pApp Sel.ha pNil)))))))))))) (stepV_ok tt_ok rfl) rfl ?_
  refine k_val (v := .pointer (some ⟨p0_4b, 0, none⟩)) rfl rfl rfl (pSub (pApp Sel.ha (pApp Sel.ha (pCons Sel.hc (pCons Sel.hc (pCons Sel.hc (pApp Sel.ha (pApp Sel.ha (pCons Sel.hc (pApp Sel.ha (pCons Sel.hc (pApp Sel.ha pNil)))))))))))) (val_load tt_ok rfl (mR (mR (List.Mem.tail _ (List.Mem.tail _ (List.Mem.head _))))) rfl) rfl ?_
  refine k_val rfl rfl rfl (pSub (pApp Sel.ha (pApp Sel.ha (pCons Sel.hc (pCons Sel.hc (pCons Sel.hc (pApp Sel.ha (pApp Sel.ha (pCons Sel.hc (pApp Sel.ha (pCons Sel.hc (pApp Sel.ha pNil)))))))))))) (stepV_ok tt_ok rfl) rfl ?_
  refine k_val rfl rfl rfl (pSub (pApp Sel.ha (pApp Sel.ha (pCons Sel.hc (pCons Sel.hc (pCons Sel.hc (pApp Sel.ha (pApp Sel.ha (pCons Sel.hc (pApp Sel.ha (pCons Sel.hc (pApp Sel.ha pNil)))))))))))) (stepV_ok tt_ok rfl) rfl ?_
  refine k_val (v := .pointer (some ⟨p0b, 2, none⟩)) rfl rfl rfl (pSub (pApp Sel.ha (pApp Sel.ha (pCons Sel.hc (pCons Sel.hc (pCons Sel.hc (pApp Sel.ha (pApp Sel.ha (pCons Sel.hc (pApp Sel.ha (pCons Sel.hc (pApp Sel.ha pNil)))))))))))) (stepV_ok tt_ok rfl) rfl ?_
  refine k_val (v := .pointer (some ⟨p0b, 2, none⟩)) rfl rfl rfl (pSub (pApp Sel.ha (pApp Sel.ha (pCons Sel.hc (pCons Sel.hc (pCons Sel.hc (pApp Sel.ha (pApp Sel.ha (pCons Sel.hc (pApp Sel.ha (pCons Sel.hc (pApp Sel.ha pNil)))))))))))) (stepV_ok tt_ok rfl) rfl ?_
  refine k_val (v := .int .u64 v31.Frame) rfl rfl rfl (pSub (pApp Sel.ha (pApp Sel.ha (pCons Sel.hc (pCons Sel.hc (pCons Sel.hc (pApp Sel.ha (pApp Sel.ha (pCons Sel.hc (pApp Sel.ha (pCons Sel.hc (pApp Sel.ha pNil)))))))))))) (val_load tt_ok rfl (mR (mR (List.Mem.tail _ (List.Mem.tail _ (List.Mem.head _))))) rfl) rfl ?_
  replace h := bsome h; obtain ⟨o52_0, x52, h⟩ := h
  refine k_cs rfl rfl rfl Tryd.call40 rfl rfl rfl (s_sp (k_queue_Queue_Drop (p0 := p0_4) p0_4N0 p0_4V0 x52) (pCons (Sel.sa (Sel.sa (Sel.sc (Sel.sc (Sel.sc (Sel.sa (Sel.sa Sel.hc))))))) (pApp (Sel.sa (Sel.sa (Sel.sc (Sel.sc (Sel.sc (Sel.sa (Sel.sa Sel.ha))))))) pNil)) (fun _ _ => trivial)) rfl (.inl rfl) ?_
  rintro _ _ ⟨_, ⟨o52_0a0, o52_0n0, o52_0c0, o52_0B0, o52_0N0, o52_0V0, rfl, rfl⟩, rfl⟩
  refine k_end (by kernel_rfl) ?_
  refine wx_then (wc_seq ?_)
  refine wc_k2 (Ls := (⟨p0_4b, [.int .u64 o52_0.first_, .slice o52_0a0 o52_0n0 o52_0c0, .int .u8 o52_0.last], p0_4t, (0, 0)⟩ :: (o52_0B0 ++ (v40B0 ++ (v31B0 ++ (⟨b6, [.int .u8 v10_0.1, .int .u8 v10_0.2], 45, (0, 0)⟩ :: (⟨b4, [.int .u8 (0 : Int), .int .u8 (0 : Int)], 45, (0, 0)⟩ :: (⟨p0b, [.int .u8 p0.player, .int .i64 p0.window, .int .u64 v31.Frame, .int .u64 v31.Seed, .int .i32 v31.Players.1.X, .int .i32 v31.Players.1.Y, .int .i32 v31.Players.1.VX, .int .i32 v31.Players.1.VY, .int .u8 v31.Players.1.Health, .int .u8 v31.Players.1.Cool, .int .u8 v31.Players.1.Face, .int .i32 v31.Players.2.X, .int .i32 v31.Players.2.Y, .int .i32 v31.Players.2.VX, .int .i32 v31.Players.2.VY, .int .u8 v31.Players.2.Health, .int .u8 v31.Players.2.Cool, .int .u8 v31.Players.2.Face, .slice v31a0 v31n0 v31c0, .int .u16 v31.Score.1, .int .u16 v31.Score.2, .slice v40a0 v40n0 v40c0, .pointer (some ⟨p0_4b, 0, none⟩), .pointer (some ⟨p0_5b, 0, none⟩)], p0t, (0, 0)⟩ :: (p0B0 ++ (p0B1 ++ (⟨p0_5b, ([.int .i64 p0_5.size] ++ flat cg_T_ring_place p0_5g0), p0_5t, (0, 0)⟩ :: (p0_5P0 ++ [])))))))))))) [8] [8] [0, 1, 3, 7, 0, 16, 48, 112, 255] [0, 1, 2, 3, 4, 5, 6, 7, 8] (by kernel_rfl) (by kernel_rfl) (by kernel_rfl) ?_
  refine k_val rfl rfl rfl (pSub (pCons Sel.hc (pApp Sel.ha (pApp Sel.ha (pApp Sel.ha (pCons Sel.hc (pCons Sel.hc (pCons Sel.hc (pApp Sel.ha (pApp Sel.ha (pCons Sel.hc (pApp Sel.ha pNil)))))))))))) (stepV_ok tt_ok rfl) rfl ?_
  refine k_val rfl rfl rfl (pSub (pCons Sel.hc (pApp Sel.ha (pApp Sel.ha (pApp Sel.ha (pCons Sel.hc (pCons Sel.hc (pCons Sel.hc (pApp Sel.ha (pApp Sel.ha (pCons Sel.hc (pApp Sel.ha pNil)))))))))))) (stepV_ok tt_ok rfl) rfl ?_
  refine k_val (v := .pointer (some ⟨p0b, 23, none⟩)) rfl rfl rfl (pSub (pCons Sel.hc (pApp Sel.ha (pApp Sel.ha (pApp Sel.ha (pCons Sel.hc (pCons Sel.hc (pCons Sel.hc (pApp Sel.ha (pApp Sel.ha (pCons Sel.hc (pApp Sel.ha pNil)))))))))))) (stepV_ok tt_ok rfl) rfl ?_
  refine k_val (v := .pointer (some ⟨p0_5b, 0, none⟩)) rfl rfl rfl (pSub (pCons Sel.hc (pApp Sel.ha (pApp Sel.ha (pApp Sel.ha (pCons Sel.hc (pCons Sel.hc (pCons Sel.hc (pApp Sel.ha (pApp Sel.ha (pCons Sel.hc (pApp Sel.ha pNil)))))))))))) (val_load tt_ok rfl (List.Mem.tail _ (mR (mR (mR (List.Mem.tail _ (List.Mem.tail _ (List.Mem.head _))))))) rfl) rfl ?_
  refine k_val rfl rfl rfl (pSub (pCons Sel.hc (pApp Sel.ha (pApp Sel.ha (pApp Sel.ha (pCons Sel.hc (pCons Sel.hc (pCons Sel.hc (pApp Sel.ha (pApp Sel.ha (pCons Sel.hc (pApp Sel.ha pNil)))))))))))) (stepV_ok tt_ok rfl) rfl ?_
  refine k_val rfl rfl rfl (pSub (pCons Sel.hc (pApp Sel.ha (pApp Sel.ha (pApp Sel.ha (pCons Sel.hc (pCons Sel.hc (pCons Sel.hc (pApp Sel.ha (pApp Sel.ha (pCons Sel.hc (pApp Sel.ha pNil)))))))))))) (stepV_ok tt_ok rfl) rfl ?_
  refine k_val (v := .pointer (some ⟨p0b, 2, none⟩)) rfl rfl rfl (pSub (pCons Sel.hc (pApp Sel.ha (pApp Sel.ha (pApp Sel.ha (pCons Sel.hc (pCons Sel.hc (pCons Sel.hc (pApp Sel.ha (pApp Sel.ha (pCons Sel.hc (pApp Sel.ha pNil)))))))))))) (stepV_ok tt_ok rfl) rfl ?_
  refine k_val (v := .agg #[.int .u64 v31.Frame, .int .u64 v31.Seed, .int .i32 v31.Players.1.X, .int .i32 v31.Players.1.Y, .int .i32 v31.Players.1.VX, .int .i32 v31.Players.1.VY, .int .u8 v31.Players.1.Health, .int .u8 v31.Players.1.Cool, .int .u8 v31.Players.1.Face, .int .i32 v31.Players.2.X, .int .i32 v31.Players.2.Y, .int .i32 v31.Players.2.VX, .int .i32 v31.Players.2.VY, .int .u8 v31.Players.2.Health, .int .u8 v31.Players.2.Cool, .int .u8 v31.Players.2.Face, .slice v31a0 v31n0 v31c0, .int .u16 v31.Score.1, .int .u16 v31.Score.2]) rfl rfl rfl (pSub (pCons Sel.hc (pApp Sel.ha (pApp Sel.ha (pApp Sel.ha (pCons Sel.hc (pCons Sel.hc (pCons Sel.hc (pApp Sel.ha (pApp Sel.ha (pCons Sel.hc (pApp Sel.ha pNil)))))))))))) (val_load tt_ok rfl (List.Mem.tail _ (mR (mR (mR (List.Mem.tail _ (List.Mem.tail _ (List.Mem.head _))))))) rfl) rfl ?_
  replace h := bsome h; obtain ⟨⟨o61_0, v61⟩, x61, h⟩ := h; try dsimp only at h
  refine k_cs rfl rfl rfl Tryd.call29 rfl rfl rfl (s_sp (k_ring_Ring_Put (p0 := p0_5) (p1 := v31) p0_5G0 p0_5A0 v31N0 (vec_cap v31V0) (own_Z v31V0) x61) (pCons (Sel.sc (Sel.sa (Sel.sa (Sel.sa (Sel.sc (Sel.sc (Sel.sc (Sel.sa (Sel.sa Sel.hc))))))))) (pApp (Sel.sc (Sel.sa (Sel.sa (Sel.sa (Sel.sc (Sel.sc (Sel.sc (Sel.sa (Sel.sa Sel.ha))))))))) pNil)) (fun w hI => ⟨(Rds.call (Rds.of_vec v31V0) (pCons (Sel.sc (Sel.sa (Sel.sa (Sel.sa (Sel.sc (Sel.sc (Sel.sc (Sel.sa (Sel.sa Sel.hc))))))))) (pApp (Sel.sc (Sel.sa (Sel.sa (Sel.sa (Sel.sc (Sel.sc (Sel.sc (Sel.sa (Sel.sa Sel.ha))))))))) pNil)) ⟨_, (Sel.sc (Sel.sa (Sel.sa Sel.ha)))⟩) w hI, (Rds.call G0S (pCons (Sel.sc (Sel.sa (Sel.sa (Sel.sa (Sel.sc (Sel.sc (Sel.sc (Sel.sa (Sel.sa Sel.hc))))))))) (pApp (Sel.sc (Sel.sa (Sel.sa (Sel.sa (Sel.sc (Sel.sc (Sel.sc (Sel.sa (Sel.sa Sel.ha))))))))) pNil)) rsub_nil) w hI, (Rds.call G1S (pCons (Sel.sc (Sel.sa (Sel.sa (Sel.sa (Sel.sc (Sel.sc (Sel.sc (Sel.sa (Sel.sa Sel.hc))))))))) (pApp (Sel.sc (Sel.sa (Sel.sa (Sel.sa (Sel.sc (Sel.sc (Sel.sc (Sel.sa (Sel.sa Sel.ha))))))))) pNil)) rsub_nil) w hI⟩)) rfl (.inl rfl) ?_
  rintro _ _ ⟨_, ⟨o61_0g0, o61_0P0, o61_0G0, o61_0A0, rfl, rfl⟩, rfl⟩
  refine k_end (by kernel_rfl) ?_
  refine wx_then (wc_seq (wc_region ?_))
  refine wl_val (v := .agg #[.int .u8 v10_0.1, .int .u8 v10_0.2]) (val_load tt_ok rfl (List.Mem.tail _ (mR (List.Mem.tail _ (mR (mR (mR (List.Mem.head _))))))) rfl) rfl ?_
  apply wl_store tt_ok; rfl; exact (Upd.there (Upd.right (Upd.there (Upd.right (Upd.right (Upd.right (Upd.there Upd.here))))))); rfl; rfl; rfl; rfl; rfl; rfl
  refine wl_pure tt_ok rfl rfl ?_
  refine wl_nil (wx_then (wc_ret ?_))
  simp only [Option.some.injEq, Prod.mk.injEq] at h
  obtain ⟨rfl, rfl, rfl, rfl, rfl⟩ := h
  exact wx_spD tt_ok (.inl rfl) Tryd.results13 (Res.cell rfl (List.Mem.tail _ (mR (List.Mem.tail _ (mR (mR (mR (List.Mem.tail _ (List.Mem.head _)))))))) rfl (Res.tmp rfl Res.nil)) ⟨v31a0, v31n0, v31c0, v31B0, v40a0, v40n0, v40c0, v40B0, o52_0a0, o52_0n0, o52_0c0, o52_0B0, o61_0g0, o61_0P0, v31N0, v31V0, v40N0, v40V0, o52_0N0, o52_0V0, o61_0G0, o61_0A0, rfl, rfl⟩ (fun F => by simp) (pSub (pCons (Sel.sc (Sel.sa (Sel.sc (Sel.sa (Sel.sa (Sel.sa (Sel.sc (Sel.sc Sel.hc)))))))) (pApp (Sel.sc (Sel.sa (Sel.sc (Sel.sa (Sel.sa Sel.ha))))) (pApp (Sel.sc (Sel.sa (Sel.sc (Sel.sa Sel.ha)))) (pCons (Sel.sc (Sel.sa Sel.hc)) (pApp (Sel.sc (Sel.sa Sel.ha)) (pCons Sel.hc (pApp Sel.ha pNil))))))))

end Go.Proofs.YtkekgagekgadmaaDoor
