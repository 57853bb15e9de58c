/-
  Each function computes what its model says. Printed by a program of this claim's own.
-/
import Derived.Test.YtfkkpnfbpolppaaDoorTab
import Derived.Test.YtfkkpnfbpolppaaDoorMod
import Derived.Test.YtfkkpnfbpolppaaDoorWalk3
namespace Go.Proofs.YtfkkpnfbpolppaaDoor
open Go.Proofs.YtfkkpnfbpolppaaDoor.Eng
set_option linter.unusedVariables false
set_option linter.unusedSimpArgs false
set_option maxHeartbeats 4000000
set_option maxRecDepth 20000

theorem k_hindcastref09_five_o0 {F : Nat} {p0 : T_api_State} {p0a0 : Option Addr} {p0n0 p0c0 : Nat} {p0B0 : List Blk} {p1 : Int} {r0 : T_api_State} (p0N0 : p0n0 = p0.Shots.length) (p0V0 : Own 66 6 p0a0 p0n0 p0c0 (flat c_T_api_Shot p0.Shots) p0B0) (h : m_hindcastref09_five_o0 F p0 p1 = some r0) :
    SpD Tryd.prog 58 [.agg #[.int .u64 p0.Frame, .int .u64 p0.Seed, .int .i32 p0.Players.1.X, .int .i32 p0.Players.1.Y, .int .i32 p0.Players.1.VX, .int .i32 p0.Players.1.VY, .int .u8 p0.Players.1.Health, .int .u8 p0.Players.1.Cool, .int .u8 p0.Players.1.Face, .int .i32 p0.Players.2.X, .int .i32 p0.Players.2.Y, .int .i32 p0.Players.2.VX, .int .i32 p0.Players.2.VY, .int .u8 p0.Players.2.Health, .int .u8 p0.Players.2.Cool, .int .u8 p0.Players.2.Face, .slice p0a0 p0n0 p0c0, .int .u16 p0.Score.1, .int .u16 p0.Score.2], .int .i64 p1] (p0B0 ++ []) (fun w => True) (fun v D => ∃ (r0a0 : Option Addr) (r0n0 r0c0 : Nat) (r0B0 : List Blk), r0n0 = r0.Shots.length ∧ Own 66 6 r0a0 r0n0 r0c0 (flat c_T_api_Shot r0.Shots) r0B0 ∧ v = .agg #[.int .u64 r0.Frame, .int .u64 r0.Seed, .int .i32 r0.Players.1.X, .int .i32 r0.Players.1.Y, .int .i32 r0.Players.1.VX, .int .i32 r0.Players.1.VY, .int .u8 r0.Players.1.Health, .int .u8 r0.Players.1.Cool, .int .u8 r0.Players.1.Face, .int .i32 r0.Players.2.X, .int .i32 r0.Players.2.Y, .int .i32 r0.Players.2.VX, .int .i32 r0.Players.2.VY, .int .u8 r0.Players.2.Health, .int .u8 r0.Players.2.Cool, .int .u8 r0.Players.2.Face, .slice r0a0 r0n0 r0c0, .int .u16 r0.Score.1, .int .u16 r0.Score.2] ∧ D = fun F => (r0B0 ++ F)) := by
  unfold m_hindcastref09_five_o0 at h
  refine sp_of_wc Tryd.func58 rfl Tryd.ntmps58 rfl rfl (fun w0 hR => ?_)
  refine wc_seq ?_
  refine wc_region ?_
  refine wl_box rfl rfl rfl (fun b2 => ?_)
  refine wl_alloc tt_ok rfl rfl (fun b4 => ?_)
  refine wl_nil ?_
  refine wx_then ?_
  refine wc_seq ?_
  refine wc_seq ?_
  refine wc_region ?_
  refine wl_pure tt_ok rfl rfl ?_
  refine wl_pure (v := .pointer (some ⟨b2, 2, none⟩)) tt_ok rfl rfl ?_
  rcases Bool.eq_false_or_eq_true (p1 == (0 : Int)) with hx130 | hx130
  · replace h := ct hx130 h
    refine wl_val (v := .pointer (some ⟨b2, 2, none⟩)) (val_ia (j := 0) tt_ok rfl rfl rfl rfl (by simpa using hx130) rfl rfl) rfl ?_
    refine wl_pure (v := .pointer (some ⟨b2, 6, none⟩)) tt_ok rfl rfl ?_
    refine wl_val (v := .int .u8 p0.Players.1.Health) (val_load tt_ok rfl (List.Mem.tail _ (List.Mem.head _)) rfl) rfl ?_
    refine wl_pure (v := .bool (decide ((0 : Int) < p0.Players.1.Health))) tt_ok rfl rfl ?_
    refine wl_nil ?_
    refine wx_then ?_
    refine wc_cond rfl (fun hc => ?_) (fun hc => ?_)
    · replace h := ct hc h
      refine wc_seq ?_
      refine wc_region ?_
      refine wl_val (v := .agg #[.int .u64 p0.Frame, .int .u64 p0.Seed, .int .i32 p0.Players.1.X, .int .i32 p0.Players.1.Y, .int .i32 p0.Players.1.VX, .int .i32 p0.Players.1.VY, .int .u8 p0.Players.1.Health, .int .u8 p0.Players.1.Cool, .int .u8 p0.Players.1.Face, .int .i32 p0.Players.2.X, .int .i32 p0.Players.2.Y, .int .i32 p0.Players.2.VX, .int .i32 p0.Players.2.VY, .int .u8 p0.Players.2.Health, .int .u8 p0.Players.2.Cool, .int .u8 p0.Players.2.Face, .slice p0a0 p0n0 p0c0, .int .u16 p0.Score.1, .int .u16 p0.Score.2]) (val_load tt_ok rfl (List.Mem.tail _ (List.Mem.head _)) rfl) rfl ?_
      apply wl_store tt_ok; rfl; exact Upd.here; rfl; rfl; rfl; rfl; rfl; rfl
      refine wl_nil ?_
      refine wx_then ?_
      refine wc_ret ?_
      refine wx_then_ret ?_
      simp only [Option.some.injEq] at h
      obtain rfl := h
      exact wx_spD tt_ok (.inl rfl) Tryd.results58 (Res.cell rfl (List.Mem.head _) rfl Res.nil) ⟨p0a0, p0n0, p0c0, p0B0, p0N0, p0V0, rfl, rfl⟩ (fun F => by simp) (pSub (pApp (Sel.sc (Sel.sc Sel.ha)) pNil))
    replace h := cf hc h
    refine wc_skip ?_
    refine wx_then ?_
    refine wc_seq ?_
    refine wc_region ?_
    refine wl_pure tt_ok rfl rfl ?_
    refine wl_pure (v := .pointer (some ⟨b2, 2, none⟩)) tt_ok rfl rfl ?_
    refine wl_val (v := .pointer (some ⟨b2, 2, none⟩)) (val_ia (j := 0) tt_ok rfl rfl rfl rfl (by simpa using hx130) rfl rfl) rfl ?_
    refine wl_val (v := .agg #[.int .i32 p0.Players.1.X, .int .i32 p0.Players.1.Y, .int .i32 p0.Players.1.VX, .int .i32 p0.Players.1.VY, .int .u8 p0.Players.1.Health, .int .u8 p0.Players.1.Cool, .int .u8 p0.Players.1.Face]) (val_load tt_ok rfl (List.Mem.tail _ (List.Mem.head _)) rfl) rfl ?_
    refine wl_alloc tt_ok rfl rfl (fun b5 => ?_)
    apply wl_store tt_ok; rfl; exact Upd.here; rfl; rfl; rfl; rfl; rfl; rfl
    refine wl_nil ?_
    refine wx_then ?_
    refine wc_seq ?_
    refine wc_region ?_
    refine wl_pure (v := .pointer (some ⟨b5, 4, none⟩)) tt_ok rfl rfl ?_
    apply wl_store tt_ok; rfl; exact Upd.here; rfl; rfl; rfl; rfl; rfl; rfl
    refine wl_nil ?_
    refine wx_then ?_
    refine wc_seq ?_
    refine wc_region ?_
    refine wl_pure (v := .pointer (some ⟨b5, 2, none⟩)) tt_ok rfl rfl ?_
    apply wl_store tt_ok; rfl; exact Upd.here; rfl; rfl; rfl; rfl; rfl; rfl
    refine wl_nil ?_
    refine wx_then ?_
    refine wc_seq ?_
    refine wc_region ?_
    refine wl_pure (v := .pointer (some ⟨b5, 3, none⟩)) tt_ok rfl rfl ?_
    apply wl_store tt_ok; rfl; exact Upd.here; rfl; rfl; rfl; rfl; rfl; rfl
    refine wl_nil ?_
    refine wx_then ?_
    refine wc_seq ?_
    refine wc_region ?_
    refine wl_pure (v := .pointer (some ⟨b2, 1, none⟩)) tt_ok rfl rfl ?_
    refine wl_val (v := .int .u64 p0.Seed) (val_load tt_ok rfl (List.Mem.tail _ (List.Mem.tail _ (List.Mem.head _))) rfl) rfl ?_
    replace h := bsome h; obtain ⟨⟨v28_0, v28_1⟩, x28, h⟩ := h; try dsimp only at h
    refine wl_cq Tryd.call79 rfl rfl rfl (q_pf (k_hindcastref05_Below x28) (fun _ _ => trivial)) rfl ?_
    refine wl_pure tt_ok rfl rfl ?_
    refine wl_pure tt_ok rfl rfl ?_
    refine wl_pure tt_ok rfl rfl ?_
    refine wl_pure tt_ok rfl rfl ?_
    refine wl_pure tt_ok rfl rfl ?_
    refine wl_nil ?_
    refine wx_then ?_
    refine wc_seq ?_
    refine wc_region ?_
    refine wl_pure tt_ok rfl rfl ?_
    replace h := bsome h; obtain ⟨⟨v33_0, v33_1⟩, x33, h⟩ := h; try dsimp only at h
    refine wl_cq Tryd.call79 rfl rfl rfl (q_pf (k_hindcastref05_Below x33) (fun _ _ => trivial)) rfl ?_
    refine wl_pure tt_ok rfl rfl ?_
    refine wl_pure tt_ok rfl rfl ?_
    refine wl_pure tt_ok rfl rfl ?_
    refine wl_pure tt_ok rfl rfl ?_
    refine wl_pure tt_ok rfl rfl ?_
    refine wl_nil ?_
    refine wx_then ?_
    refine wc_seq ?_
    refine wc_region ?_
    refine wl_pure tt_ok rfl rfl ?_
    refine wl_pure (v := .pointer (some ⟨b2, 1, none⟩)) tt_ok rfl rfl ?_
    apply wl_store tt_ok; rfl; exact (Upd.there (Upd.there Upd.here)); rfl; rfl; rfl; rfl; rfl; rfl
    refine wl_nil ?_
    refine wx_then ?_
    refine wc_seq ?_
    refine wc_region ?_
    refine wl_val (v := .agg #[.int .i32 p0.Players.1.X, .int .i32 p0.Players.1.Y, .int .i32 (0 : Int), .int .i32 (0 : Int), .int .u8 (100 : Int), .int .u8 p0.Players.1.Cool, .int .u8 p0.Players.1.Face]) (val_load tt_ok rfl (List.Mem.head _) rfl) rfl ?_
    refine wl_alloc tt_ok rfl rfl (fun b10 => ?_)
    apply wl_store tt_ok; rfl; exact Upd.here; rfl; rfl; rfl; rfl; rfl; rfl
    refine wl_nil ?_
    refine wx_then ?_
    refine wc_seq ?_
    refine wc_region ?_
    refine wl_pure tt_ok rfl rfl ?_
    refine wl_pure (v := .int .i32 (IntKind.wrap .i32 v28_0)) tt_ok rfl rfl ?_
    refine wl_pure (v := .pointer (some ⟨b10, 0, none⟩)) tt_ok rfl rfl ?_
    apply wl_store tt_ok; rfl; exact Upd.here; rfl; rfl; rfl; rfl; rfl; rfl
    refine wl_nil ?_
    refine wx_then ?_
    refine wc_seq ?_
    refine wc_region ?_
    refine wl_pure tt_ok rfl rfl ?_
    refine wl_pure (v := .int .i32 (IntKind.wrap .i32 v33_0)) tt_ok rfl rfl ?_
    refine wl_pure (v := .pointer (some ⟨b10, 1, none⟩)) tt_ok rfl rfl ?_
    apply wl_store tt_ok; rfl; exact Upd.here; rfl; rfl; rfl; rfl; rfl; rfl
    refine wl_nil ?_
    refine wx_then ?_
    refine wc_seq ?_
    refine wc_region ?_
    refine wl_pure tt_ok rfl rfl ?_
    refine wl_val (v := .agg #[.int .i32 (IntKind.wrap .i32 v28_0), .int .i32 (IntKind.wrap .i32 v33_0), .int .i32 (0 : Int), .int .i32 (0 : Int), .int .u8 (100 : Int), .int .u8 p0.Players.1.Cool, .int .u8 p0.Players.1.Face]) (val_load tt_ok rfl (List.Mem.head _) rfl) rfl ?_
    refine wl_pure (v := .pointer (some ⟨b2, 2, none⟩)) tt_ok rfl rfl ?_
    refine wl_val (v := .pointer (some ⟨b2, 2, none⟩)) (val_ia (j := 0) tt_ok rfl rfl rfl rfl (by simpa using hx130) rfl rfl) rfl ?_
    apply wl_store tt_ok; rfl; exact (Upd.there (Upd.there (Upd.there Upd.here))); rfl; rfl; rfl; rfl; rfl; rfl
    refine wl_nil ?_
    refine wx_then ?_
    refine wc_seq ?_
    refine wc_seq ?_
    refine wc_quiet (by kernel_rfl) (by kernel_rfl) ?_
    refine wq_val (v := .agg #[.int .i32 (IntKind.wrap .i32 v28_0), .int .i32 (IntKind.wrap .i32 v33_0), .int .i32 (0 : Int), .int .i32 (0 : Int), .int .u8 (100 : Int), .int .u8 p0.Players.1.Cool, .int .u8 p0.Players.1.Face]) (val_load tt_ok rfl (List.Mem.head _) rfl) rfl ?_
    replace h := bsome h; obtain ⟨v50, x50, h⟩ := h
    refine wq_cq Tryd.call77 rfl rfl rfl (q_pf (k_hindcastref09_Box x50) (fun _ _ => trivial)) rfl ?_
    refine wq_pure tt_ok rfl rfl ?_
    refine wq_pure (v := .int .i64 (IntKind.wrap .i64 ((1 : Int) - p1))) tt_ok rfl rfl ?_
    refine wq_pure (v := .pointer (some ⟨b2, 2, none⟩)) tt_ok rfl rfl ?_
    rcases Bool.eq_false_or_eq_true ((IntKind.wrap .i64 ((1 : Int) - p1)) == (0 : Int)) with hx540 | hx540
    · replace h := ct hx540 h
      refine wq_val (v := .pointer (some ⟨b2, 2, none⟩)) (val_ia (j := 0) tt_ok rfl rfl rfl rfl (by simpa using hx540) rfl rfl) rfl ?_
      refine wq_val (v := .agg #[.int .i32 (IntKind.wrap .i32 v28_0), .int .i32 (IntKind.wrap .i32 v33_0), .int .i32 (0 : Int), .int .i32 (0 : Int), .int .u8 (100 : Int), .int .u8 p0.Players.1.Cool, .int .u8 p0.Players.1.Face]) (val_load tt_ok rfl (List.Mem.tail _ (List.Mem.tail _ (List.Mem.tail _ (List.Mem.head _)))) rfl) rfl ?_
      replace h := bsome h; obtain ⟨v56, x56, h⟩ := h
      refine wq_cq Tryd.call77 rfl rfl rfl (q_pf (k_hindcastref09_Box x56) (fun _ _ => trivial)) rfl ?_
      replace h := bsome h; obtain ⟨v57, x57, h⟩ := h
      refine wq_cq Tryd.call76 rfl rfl rfl (q_pf (k_hindcastref07_Over x57) (fun _ _ => trivial)) rfl ?_
      refine wq_nil ?_
      refine wx_then ?_
      replace h := bsome h; obtain ⟨j36_n2_f2, h, hj36⟩ := h
      refine wc_join2 (fun E L => E = [(2, .pointer (some ⟨b2, 0, none⟩)), (4, .pointer (some ⟨b4, 0, none⟩))] ∧ L = (⟨b2, [.int .u64 p0.Frame, .int .u64 v33_1, .int .i32 j36_n2_f2.1.X, .int .i32 j36_n2_f2.1.Y, .int .i32 j36_n2_f2.1.VX, .int .i32 j36_n2_f2.1.VY, .int .u8 j36_n2_f2.1.Health, .int .u8 j36_n2_f2.1.Cool, .int .u8 j36_n2_f2.1.Face, .int .i32 j36_n2_f2.2.X, .int .i32 j36_n2_f2.2.Y, .int .i32 j36_n2_f2.2.VX, .int .i32 j36_n2_f2.2.VY, .int .u8 j36_n2_f2.2.Health, .int .u8 j36_n2_f2.2.Cool, .int .u8 j36_n2_f2.2.Face, .slice p0a0 p0n0 p0c0, .int .u16 p0.Score.1, .int .u16 p0.Score.2], 30, (0, 0)⟩ :: (⟨b4, [.int .u64 (0 : Int), .int .u64 (0 : Int), .int .i32 (0 : Int), .int .i32 (0 : Int), .int .i32 (0 : Int), .int .i32 (0 : Int), .int .u8 (0 : Int), .int .u8 (0 : Int), .int .u8 (0 : Int), .int .i32 (0 : Int), .int .i32 (0 : Int), .int .i32 (0 : Int), .int .i32 (0 : Int), .int .u8 (0 : Int), .int .u8 (0 : Int), .int .u8 (0 : Int), .slice none 0 0, .int .u16 (0 : Int), .int .u16 (0 : Int)], 30, (0, 0)⟩ :: (p0B0 ++ [])))) ?_ ?_
      · refine wc_cond rfl (fun hc => ?_) (fun hc => ?_)
        · replace h := ct hc h
          refine wc_region ?_
          refine wl_pure tt_ok rfl rfl ?_
          refine wl_val (v := .agg #[.int .i32 p0.Players.1.X, .int .i32 p0.Players.1.Y, .int .i32 (0 : Int), .int .i32 (0 : Int), .int .u8 (100 : Int), .int .u8 p0.Players.1.Cool, .int .u8 p0.Players.1.Face]) (val_load tt_ok rfl (List.Mem.tail _ (List.Mem.head _)) rfl) rfl ?_
          refine wl_pure (v := .pointer (some ⟨b2, 2, none⟩)) tt_ok rfl rfl ?_
          refine wl_val (v := .pointer (some ⟨b2, 2, none⟩)) (val_ia (j := 0) tt_ok rfl rfl rfl rfl (by simpa using hx130) rfl rfl) rfl ?_
          apply wl_store tt_ok; rfl; exact (Upd.there (Upd.there (Upd.there Upd.here))); rfl; rfl; rfl; rfl; rfl; rfl
          refine wl_nil ?_
          simp only [Option.some.injEq] at h
          obtain rfl := h
          exact wx_join ⟨rfl, rfl⟩ (agree_cons rfl (agree_cons rfl agree_nil)) (pSub (pCons (Sel.sc (Sel.sc (Sel.sc Sel.hc))) (pCons (Sel.sc (Sel.sc Sel.hc)) (pApp (Sel.sc (Sel.sc Sel.ha)) pNil))))
        replace h := cf hc h
        refine wc_skip ?_
        simp only [Option.some.injEq] at h
        obtain rfl := h
        exact wx_join ⟨rfl, rfl⟩ (agree_cons rfl (agree_cons rfl agree_nil)) (pSub (pCons (Sel.sc (Sel.sc (Sel.sc Sel.hc))) (pCons (Sel.sc (Sel.sc Sel.hc)) (pApp (Sel.sc (Sel.sc Sel.ha)) pNil))))
      rintro _ _ ⟨rfl, rfl⟩
      have h := hj36; clear hj36
      refine wc_seq ?_
      refine wc_region ?_
      refine wl_val (v := .agg #[.int .u64 p0.Frame, .int .u64 v33_1, .int .i32 j36_n2_f2.1.X, .int .i32 j36_n2_f2.1.Y, .int .i32 j36_n2_f2.1.VX, .int .i32 j36_n2_f2.1.VY, .int .u8 j36_n2_f2.1.Health, .int .u8 j36_n2_f2.1.Cool, .int .u8 j36_n2_f2.1.Face, .int .i32 j36_n2_f2.2.X, .int .i32 j36_n2_f2.2.Y, .int .i32 j36_n2_f2.2.VX, .int .i32 j36_n2_f2.2.VY, .int .u8 j36_n2_f2.2.Health, .int .u8 j36_n2_f2.2.Cool, .int .u8 j36_n2_f2.2.Face, .slice p0a0 p0n0 p0c0, .int .u16 p0.Score.1, .int .u16 p0.Score.2]) (val_load tt_ok rfl (List.Mem.head _) rfl) rfl ?_
      apply wl_store tt_ok; rfl; exact (Upd.there Upd.here); rfl; rfl; rfl; rfl; rfl; rfl
      refine wl_nil ?_
      refine wx_then ?_
      refine wc_ret ?_
      simp only [Option.some.injEq] at h
      obtain rfl := h
      exact wx_spD tt_ok (.inl rfl) Tryd.results58 (Res.cell rfl (List.Mem.tail _ (List.Mem.head _)) rfl Res.nil) ⟨p0a0, p0n0, p0c0, p0B0, p0N0, p0V0, rfl, rfl⟩ (fun F => by simp) (pSub (pApp (Sel.sc (Sel.sc Sel.ha)) pNil))
    replace h := cf hx540 h
    rcases Bool.eq_false_or_eq_true ((IntKind.wrap .i64 ((1 : Int) - p1)) == (1 : Int)) with hx541 | hx541
    · replace h := ct hx541 h
      refine wq_val (v := .pointer (some ⟨b2, 9, none⟩)) (val_ia (j := 1) tt_ok rfl rfl rfl rfl (by simpa using hx541) rfl rfl) rfl ?_
      refine wq_val (v := .agg #[.int .i32 p0.Players.2.X, .int .i32 p0.Players.2.Y, .int .i32 p0.Players.2.VX, .int .i32 p0.Players.2.VY, .int .u8 p0.Players.2.Health, .int .u8 p0.Players.2.Cool, .int .u8 p0.Players.2.Face]) (val_load tt_ok rfl (List.Mem.tail _ (List.Mem.tail _ (List.Mem.tail _ (List.Mem.head _)))) rfl) rfl ?_
      replace h := bsome h; obtain ⟨v56, x56, h⟩ := h
      refine wq_cq Tryd.call77 rfl rfl rfl (q_pf (k_hindcastref09_Box x56) (fun _ _ => trivial)) rfl ?_
      replace h := bsome h; obtain ⟨v57, x57, h⟩ := h
      refine wq_cq Tryd.call76 rfl rfl rfl (q_pf (k_hindcastref07_Over x57) (fun _ _ => trivial)) rfl ?_
      refine wq_nil ?_
      refine wx_then ?_
      replace h := bsome h; obtain ⟨j36_n2_f2, h, hj36⟩ := h
      refine wc_join2 (fun E L => E = [(2, .pointer (some ⟨b2, 0, none⟩)), (4, .pointer (some ⟨b4, 0, none⟩))] ∧ L = (⟨b2, [.int .u64 p0.Frame, .int .u64 v33_1, .int .i32 j36_n2_f2.1.X, .int .i32 j36_n2_f2.1.Y, .int .i32 j36_n2_f2.1.VX, .int .i32 j36_n2_f2.1.VY, .int .u8 j36_n2_f2.1.Health, .int .u8 j36_n2_f2.1.Cool, .int .u8 j36_n2_f2.1.Face, .int .i32 j36_n2_f2.2.X, .int .i32 j36_n2_f2.2.Y, .int .i32 j36_n2_f2.2.VX, .int .i32 j36_n2_f2.2.VY, .int .u8 j36_n2_f2.2.Health, .int .u8 j36_n2_f2.2.Cool, .int .u8 j36_n2_f2.2.Face, .slice p0a0 p0n0 p0c0, .int .u16 p0.Score.1, .int .u16 p0.Score.2], 30, (0, 0)⟩ :: (⟨b4, [.int .u64 (0 : Int), .int .u64 (0 : Int), .int .i32 (0 : Int), .int .i32 (0 : Int), .int .i32 (0 : Int), .int .i32 (0 : Int), .int .u8 (0 : Int), .int .u8 (0 : Int), .int .u8 (0 : Int), .int .i32 (0 : Int), .int .i32 (0 : Int), .int .i32 (0 : Int), .int .i32 (0 : Int), .int .u8 (0 : Int), .int .u8 (0 : Int), .int .u8 (0 : Int), .slice none 0 0, .int .u16 (0 : Int), .int .u16 (0 : Int)], 30, (0, 0)⟩ :: (p0B0 ++ [])))) ?_ ?_
      · refine wc_cond rfl (fun hc => ?_) (fun hc => ?_)
        · replace h := ct hc h
          refine wc_region ?_
          refine wl_pure tt_ok rfl rfl ?_
          refine wl_val (v := .agg #[.int .i32 p0.Players.1.X, .int .i32 p0.Players.1.Y, .int .i32 (0 : Int), .int .i32 (0 : Int), .int .u8 (100 : Int), .int .u8 p0.Players.1.Cool, .int .u8 p0.Players.1.Face]) (val_load tt_ok rfl (List.Mem.tail _ (List.Mem.head _)) rfl) rfl ?_
          refine wl_pure (v := .pointer (some ⟨b2, 2, none⟩)) tt_ok rfl rfl ?_
          refine wl_val (v := .pointer (some ⟨b2, 2, none⟩)) (val_ia (j := 0) tt_ok rfl rfl rfl rfl (by simpa using hx130) rfl rfl) rfl ?_
          apply wl_store tt_ok; rfl; exact (Upd.there (Upd.there (Upd.there Upd.here))); rfl; rfl; rfl; rfl; rfl; rfl
          refine wl_nil ?_
          simp only [Option.some.injEq] at h
          obtain rfl := h
          exact wx_join ⟨rfl, rfl⟩ (agree_cons rfl (agree_cons rfl agree_nil)) (pSub (pCons (Sel.sc (Sel.sc (Sel.sc Sel.hc))) (pCons (Sel.sc (Sel.sc Sel.hc)) (pApp (Sel.sc (Sel.sc Sel.ha)) pNil))))
        replace h := cf hc h
        refine wc_skip ?_
        simp only [Option.some.injEq] at h
        obtain rfl := h
        exact wx_join ⟨rfl, rfl⟩ (agree_cons rfl (agree_cons rfl agree_nil)) (pSub (pCons (Sel.sc (Sel.sc (Sel.sc Sel.hc))) (pCons (Sel.sc (Sel.sc Sel.hc)) (pApp (Sel.sc (Sel.sc Sel.ha)) pNil))))
      rintro _ _ ⟨rfl, rfl⟩
      have h := hj36; clear hj36
      refine wc_seq ?_
      refine wc_region ?_
      refine wl_val (v := .agg #[.int .u64 p0.Frame, .int .u64 v33_1, .int .i32 j36_n2_f2.1.X, .int .i32 j36_n2_f2.1.Y, .int .i32 j36_n2_f2.1.VX, .int .i32 j36_n2_f2.1.VY, .int .u8 j36_n2_f2.1.Health, .int .u8 j36_n2_f2.1.Cool, .int .u8 j36_n2_f2.1.Face, .int .i32 j36_n2_f2.2.X, .int .i32 j36_n2_f2.2.Y, .int .i32 j36_n2_f2.2.VX, .int .i32 j36_n2_f2.2.VY, .int .u8 j36_n2_f2.2.Health, .int .u8 j36_n2_f2.2.Cool, .int .u8 j36_n2_f2.2.Face, .slice p0a0 p0n0 p0c0, .int .u16 p0.Score.1, .int .u16 p0.Score.2]) (val_load tt_ok rfl (List.Mem.head _) rfl) rfl ?_
      apply wl_store tt_ok; rfl; exact (Upd.there Upd.here); rfl; rfl; rfl; rfl; rfl; rfl
      refine wl_nil ?_
      refine wx_then ?_
      refine wc_ret ?_
      simp only [Option.some.injEq] at h
      obtain rfl := h
      exact wx_spD tt_ok (.inl rfl) Tryd.results58 (Res.cell rfl (List.Mem.tail _ (List.Mem.head _)) rfl Res.nil) ⟨p0a0, p0n0, p0c0, p0B0, p0N0, p0V0, rfl, rfl⟩ (fun F => by simp) (pSub (pApp (Sel.sc (Sel.sc Sel.ha)) pNil))
    replace h := cf hx541 h
    cases h
  replace h := cf hx130 h
  rcases Bool.eq_false_or_eq_true (p1 == (1 : Int)) with hx131 | hx131
  · replace h := ct hx131 h
    refine wl_val (v := .pointer (some ⟨b2, 9, none⟩)) (val_ia (j := 1) tt_ok rfl rfl rfl rfl (by simpa using hx131) rfl rfl) rfl ?_
    refine wl_pure (v := .pointer (some ⟨b2, 13, none⟩)) tt_ok rfl rfl ?_
    refine wl_val (v := .int .u8 p0.Players.2.Health) (val_load tt_ok rfl (List.Mem.tail _ (List.Mem.head _)) rfl) rfl ?_
    refine wl_pure (v := .bool (decide ((0 : Int) < p0.Players.2.Health))) tt_ok rfl rfl ?_
    refine wl_nil ?_
    refine wx_then ?_
    refine wc_cond rfl (fun hc => ?_) (fun hc => ?_)
    · replace h := ct hc h
      refine wc_seq ?_
      refine wc_region ?_
      refine wl_val (v := .agg #[.int .u64 p0.Frame, .int .u64 p0.Seed, .int .i32 p0.Players.1.X, .int .i32 p0.Players.1.Y, .int .i32 p0.Players.1.VX, .int .i32 p0.Players.1.VY, .int .u8 p0.Players.1.Health, .int .u8 p0.Players.1.Cool, .int .u8 p0.Players.1.Face, .int .i32 p0.Players.2.X, .int .i32 p0.Players.2.Y, .int .i32 p0.Players.2.VX, .int .i32 p0.Players.2.VY, .int .u8 p0.Players.2.Health, .int .u8 p0.Players.2.Cool, .int .u8 p0.Players.2.Face, .slice p0a0 p0n0 p0c0, .int .u16 p0.Score.1, .int .u16 p0.Score.2]) (val_load tt_ok rfl (List.Mem.tail _ (List.Mem.head _)) rfl) rfl ?_
      apply wl_store tt_ok; rfl; exact Upd.here; rfl; rfl; rfl; rfl; rfl; rfl
      refine wl_nil ?_
      refine wx_then ?_
      refine wc_ret ?_
      refine wx_then_ret ?_
      simp only [Option.some.injEq] at h
      obtain rfl := h
      exact wx_spD tt_ok (.inl rfl) Tryd.results58 (Res.cell rfl (List.Mem.head _) rfl Res.nil) ⟨p0a0, p0n0, p0c0, p0B0, p0N0, p0V0, rfl, rfl⟩ (fun F => by simp) (pSub (pApp (Sel.sc (Sel.sc Sel.ha)) pNil))
    replace h := cf hc h
    refine wc_skip ?_
    refine wx_then ?_
    refine wc_seq ?_
    refine wc_region ?_
    refine wl_pure tt_ok rfl rfl ?_
    refine wl_pure (v := .pointer (some ⟨b2, 2, none⟩)) tt_ok rfl rfl ?_
    refine wl_val (v := .pointer (some ⟨b2, 9, none⟩)) (val_ia (j := 1) tt_ok rfl rfl rfl rfl (by simpa using hx131) rfl rfl) rfl ?_
    refine wl_val (v := .agg #[.int .i32 p0.Players.2.X, .int .i32 p0.Players.2.Y, .int .i32 p0.Players.2.VX, .int .i32 p0.Players.2.VY, .int .u8 p0.Players.2.Health, .int .u8 p0.Players.2.Cool, .int .u8 p0.Players.2.Face]) (val_load tt_ok rfl (List.Mem.tail _ (List.Mem.head _)) rfl) rfl ?_
    refine wl_alloc tt_ok rfl rfl (fun b5 => ?_)
    apply wl_store tt_ok; rfl; exact Upd.here; rfl; rfl; rfl; rfl; rfl; rfl
    refine wl_nil ?_
    refine wx_then ?_
    refine wc_seq ?_
    refine wc_region ?_
    refine wl_pure (v := .pointer (some ⟨b5, 4, none⟩)) tt_ok rfl rfl ?_
    apply wl_store tt_ok; rfl; exact Upd.here; rfl; rfl; rfl; rfl; rfl; rfl
    refine wl_nil ?_
    refine wx_then ?_
    refine wc_seq ?_
    refine wc_region ?_
    refine wl_pure (v := .pointer (some ⟨b5, 2, none⟩)) tt_ok rfl rfl ?_
    apply wl_store tt_ok; rfl; exact Upd.here; rfl; rfl; rfl; rfl; rfl; rfl
    refine wl_nil ?_
    refine wx_then ?_
    refine wc_seq ?_
    refine wc_region ?_
    refine wl_pure (v := .pointer (some ⟨b5, 3, none⟩)) tt_ok rfl rfl ?_
    apply wl_store tt_ok; rfl; exact Upd.here; rfl; rfl; rfl; rfl; rfl; rfl
    refine wl_nil ?_
    refine wx_then ?_
    refine wc_seq ?_
    refine wc_region ?_
    refine wl_pure (v := .pointer (some ⟨b2, 1, none⟩)) tt_ok rfl rfl ?_
    refine wl_val (v := .int .u64 p0.Seed) (val_load tt_ok rfl (List.Mem.tail _ (List.Mem.tail _ (List.Mem.head _))) rfl) rfl ?_
    replace h := bsome h; obtain ⟨⟨v28_0, v28_1⟩, x28, h⟩ := h; try dsimp only at h
    refine wl_cq Tryd.call79 rfl rfl rfl (q_pf (k_hindcastref05_Below x28) (fun _ _ => trivial)) rfl ?_
    refine wl_pure tt_ok rfl rfl ?_
    refine wl_pure tt_ok rfl rfl ?_
    refine wl_pure tt_ok rfl rfl ?_
    refine wl_pure tt_ok rfl rfl ?_
    refine wl_pure tt_ok rfl rfl ?_
    refine wl_nil ?_
    refine wx_then ?_
    refine wc_seq ?_
    refine wc_region ?_
    refine wl_pure tt_ok rfl rfl ?_
    replace h := bsome h; obtain ⟨⟨v33_0, v33_1⟩, x33, h⟩ := h; try dsimp only at h
    refine wl_cq Tryd.call79 rfl rfl rfl (q_pf (k_hindcastref05_Below x33) (fun _ _ => trivial)) rfl ?_
    refine wl_pure tt_ok rfl rfl ?_
    refine wl_pure tt_ok rfl rfl ?_
    refine wl_pure tt_ok rfl rfl ?_
    refine wl_pure tt_ok rfl rfl ?_
    refine wl_pure tt_ok rfl rfl ?_
    refine wl_nil ?_
    refine wx_then ?_
    refine wc_seq ?_
    refine wc_region ?_
    refine wl_pure tt_ok rfl rfl ?_
    refine wl_pure (v := .pointer (some ⟨b2, 1, none⟩)) tt_ok rfl rfl ?_
    apply wl_store tt_ok; rfl; exact (Upd.there (Upd.there Upd.here)); rfl; rfl; rfl; rfl; rfl; rfl
    refine wl_nil ?_
    refine wx_then ?_
    refine wc_seq ?_
    refine wc_region ?_
    refine wl_val (v := .agg #[.int .i32 p0.Players.2.X, .int .i32 p0.Players.2.Y, .int .i32 (0 : Int), .int .i32 (0 : Int), .int .u8 (100 : Int), .int .u8 p0.Players.2.Cool, .int .u8 p0.Players.2.Face]) (val_load tt_ok rfl (List.Mem.head _) rfl) rfl ?_
    refine wl_alloc tt_ok rfl rfl (fun b10 => ?_)
    apply wl_store tt_ok; rfl; exact Upd.here; rfl; rfl; rfl; rfl; rfl; rfl
    refine wl_nil ?_
    refine wx_then ?_
    refine wc_seq ?_
    refine wc_region ?_
    refine wl_pure tt_ok rfl rfl ?_
    refine wl_pure (v := .int .i32 (IntKind.wrap .i32 v28_0)) tt_ok rfl rfl ?_
    refine wl_pure (v := .pointer (some ⟨b10, 0, none⟩)) tt_ok rfl rfl ?_
    apply wl_store tt_ok; rfl; exact Upd.here; rfl; rfl; rfl; rfl; rfl; rfl
    refine wl_nil ?_
    refine wx_then ?_
    refine wc_seq ?_
    refine wc_region ?_
    refine wl_pure tt_ok rfl rfl ?_
    refine wl_pure (v := .int .i32 (IntKind.wrap .i32 v33_0)) tt_ok rfl rfl ?_
    refine wl_pure (v := .pointer (some ⟨b10, 1, none⟩)) tt_ok rfl rfl ?_
    apply wl_store tt_ok; rfl; exact Upd.here; rfl; rfl; rfl; rfl; rfl; rfl
    refine wl_nil ?_
    refine wx_then ?_
    refine wc_seq ?_
    refine wc_region ?_
    refine wl_pure tt_ok rfl rfl ?_
    refine wl_val (v := .agg #[.int .i32 (IntKind.wrap .i32 v28_0), .int .i32 (IntKind.wrap .i32 v33_0), .int .i32 (0 : Int), .int .i32 (0 : Int), .int .u8 (100 : Int), .int .u8 p0.Players.2.Cool, .int .u8 p0.Players.2.Face]) (val_load tt_ok rfl (List.Mem.head _) rfl) rfl ?_
    refine wl_pure (v := .pointer (some ⟨b2, 2, none⟩)) tt_ok rfl rfl ?_
    refine wl_val (v := .pointer (some ⟨b2, 9, none⟩)) (val_ia (j := 1) tt_ok rfl rfl rfl rfl (by simpa using hx131) rfl rfl) rfl ?_
    apply wl_store tt_ok; rfl; exact (Upd.there (Upd.there (Upd.there Upd.here))); rfl; rfl; rfl; rfl; rfl; rfl
    refine wl_nil ?_
    refine wx_then ?_
    refine wc_seq ?_
    refine wc_seq ?_
    refine wc_quiet (by kernel_rfl) (by kernel_rfl) ?_
    refine wq_val (v := .agg #[.int .i32 (IntKind.wrap .i32 v28_0), .int .i32 (IntKind.wrap .i32 v33_0), .int .i32 (0 : Int), .int .i32 (0 : Int), .int .u8 (100 : Int), .int .u8 p0.Players.2.Cool, .int .u8 p0.Players.2.Face]) (val_load tt_ok rfl (List.Mem.head _) rfl) rfl ?_
    replace h := bsome h; obtain ⟨v50, x50, h⟩ := h
    refine wq_cq Tryd.call77 rfl rfl rfl (q_pf (k_hindcastref09_Box x50) (fun _ _ => trivial)) rfl ?_
    refine wq_pure tt_ok rfl rfl ?_
    refine wq_pure (v := .int .i64 (IntKind.wrap .i64 ((1 : Int) - p1))) tt_ok rfl rfl ?_
    refine wq_pure (v := .pointer (some ⟨b2, 2, none⟩)) tt_ok rfl rfl ?_
    rcases Bool.eq_false_or_eq_true ((IntKind.wrap .i64 ((1 : Int) - p1)) == (0 : Int)) with hx540 | hx540
    · replace h := ct hx540 h
      refine wq_val (v := .pointer (some ⟨b2, 2, none⟩)) (val_ia (j := 0) tt_ok rfl rfl rfl rfl (by simpa using hx540) rfl rfl) rfl ?_
      refine wq_val (v := .agg #[.int .i32 p0.Players.1.X, .int .i32 p0.Players.1.Y, .int .i32 p0.Players.1.VX, .int .i32 p0.Players.1.VY, .int .u8 p0.Players.1.Health, .int .u8 p0.Players.1.Cool, .int .u8 p0.Players.1.Face]) (val_load tt_ok rfl (List.Mem.tail _ (List.Mem.tail _ (List.Mem.tail _ (List.Mem.head _)))) rfl) rfl ?_
      replace h := bsome h; obtain ⟨v56, x56, h⟩ := h
      refine wq_cq Tryd.call77 rfl rfl rfl (q_pf (k_hindcastref09_Box x56) (fun _ _ => trivial)) rfl ?_
      replace h := bsome h; obtain ⟨v57, x57, h⟩ := h
      refine wq_cq Tryd.call76 rfl rfl rfl (q_pf (k_hindcastref07_Over x57) (fun _ _ => trivial)) rfl ?_
      refine wq_nil ?_
      refine wx_then ?_
      replace h := bsome h; obtain ⟨j36_n2_f2, h, hj36⟩ := h
      refine wc_join2 (fun E L => E = [(2, .pointer (some ⟨b2, 0, none⟩)), (4, .pointer (some ⟨b4, 0, none⟩))] ∧ L = (⟨b2, [.int .u64 p0.Frame, .int .u64 v33_1, .int .i32 j36_n2_f2.1.X, .int .i32 j36_n2_f2.1.Y, .int .i32 j36_n2_f2.1.VX, .int .i32 j36_n2_f2.1.VY, .int .u8 j36_n2_f2.1.Health, .int .u8 j36_n2_f2.1.Cool, .int .u8 j36_n2_f2.1.Face, .int .i32 j36_n2_f2.2.X, .int .i32 j36_n2_f2.2.Y, .int .i32 j36_n2_f2.2.VX, .int .i32 j36_n2_f2.2.VY, .int .u8 j36_n2_f2.2.Health, .int .u8 j36_n2_f2.2.Cool, .int .u8 j36_n2_f2.2.Face, .slice p0a0 p0n0 p0c0, .int .u16 p0.Score.1, .int .u16 p0.Score.2], 30, (0, 0)⟩ :: (⟨b4, [.int .u64 (0 : Int), .int .u64 (0 : Int), .int .i32 (0 : Int), .int .i32 (0 : Int), .int .i32 (0 : Int), .int .i32 (0 : Int), .int .u8 (0 : Int), .int .u8 (0 : Int), .int .u8 (0 : Int), .int .i32 (0 : Int), .int .i32 (0 : Int), .int .i32 (0 : Int), .int .i32 (0 : Int), .int .u8 (0 : Int), .int .u8 (0 : Int), .int .u8 (0 : Int), .slice none 0 0, .int .u16 (0 : Int), .int .u16 (0 : Int)], 30, (0, 0)⟩ :: (p0B0 ++ [])))) ?_ ?_
      · refine wc_cond rfl (fun hc => ?_) (fun hc => ?_)
        · replace h := ct hc h
          refine wc_region ?_
          refine wl_pure tt_ok rfl rfl ?_
          refine wl_val (v := .agg #[.int .i32 p0.Players.2.X, .int .i32 p0.Players.2.Y, .int .i32 (0 : Int), .int .i32 (0 : Int), .int .u8 (100 : Int), .int .u8 p0.Players.2.Cool, .int .u8 p0.Players.2.Face]) (val_load tt_ok rfl (List.Mem.tail _ (List.Mem.head _)) rfl) rfl ?_
          refine wl_pure (v := .pointer (some ⟨b2, 2, none⟩)) tt_ok rfl rfl ?_
          refine wl_val (v := .pointer (some ⟨b2, 9, none⟩)) (val_ia (j := 1) tt_ok rfl rfl rfl rfl (by simpa using hx131) rfl rfl) rfl ?_
          apply wl_store tt_ok; rfl; exact (Upd.there (Upd.there (Upd.there Upd.here))); rfl; rfl; rfl; rfl; rfl; rfl
          refine wl_nil ?_
          simp only [Option.some.injEq] at h
          obtain rfl := h
          exact wx_join ⟨rfl, rfl⟩ (agree_cons rfl (agree_cons rfl agree_nil)) (pSub (pCons (Sel.sc (Sel.sc (Sel.sc Sel.hc))) (pCons (Sel.sc (Sel.sc Sel.hc)) (pApp (Sel.sc (Sel.sc Sel.ha)) pNil))))
        replace h := cf hc h
        refine wc_skip ?_
        simp only [Option.some.injEq] at h
        obtain rfl := h
        exact wx_join ⟨rfl, rfl⟩ (agree_cons rfl (agree_cons rfl agree_nil)) (pSub (pCons (Sel.sc (Sel.sc (Sel.sc Sel.hc))) (pCons (Sel.sc (Sel.sc Sel.hc)) (pApp (Sel.sc (Sel.sc Sel.ha)) pNil))))
      rintro _ _ ⟨rfl, rfl⟩
      have h := hj36; clear hj36
      refine wc_seq ?_
      refine wc_region ?_
      refine wl_val (v := .agg #[.int .u64 p0.Frame, .int .u64 v33_1, .int .i32 j36_n2_f2.1.X, .int .i32 j36_n2_f2.1.Y, .int .i32 j36_n2_f2.1.VX, .int .i32 j36_n2_f2.1.VY, .int .u8 j36_n2_f2.1.Health, .int .u8 j36_n2_f2.1.Cool, .int .u8 j36_n2_f2.1.Face, .int .i32 j36_n2_f2.2.X, .int .i32 j36_n2_f2.2.Y, .int .i32 j36_n2_f2.2.VX, .int .i32 j36_n2_f2.2.VY, .int .u8 j36_n2_f2.2.Health, .int .u8 j36_n2_f2.2.Cool, .int .u8 j36_n2_f2.2.Face, .slice p0a0 p0n0 p0c0, .int .u16 p0.Score.1, .int .u16 p0.Score.2]) (val_load tt_ok rfl (List.Mem.head _) rfl) rfl ?_
      apply wl_store tt_ok; rfl; exact (Upd.there Upd.here); rfl; rfl; rfl; rfl; rfl; rfl
      refine wl_nil ?_
      refine wx_then ?_
      refine wc_ret ?_
      simp only [Option.some.injEq] at h
      obtain rfl := h
      exact wx_spD tt_ok (.inl rfl) Tryd.results58 (Res.cell rfl (List.Mem.tail _ (List.Mem.head _)) rfl Res.nil) ⟨p0a0, p0n0, p0c0, p0B0, p0N0, p0V0, rfl, rfl⟩ (fun F => by simp) (pSub (pApp (Sel.sc (Sel.sc Sel.ha)) pNil))
    replace h := cf hx540 h
    rcases Bool.eq_false_or_eq_true ((IntKind.wrap .i64 ((1 : Int) - p1)) == (1 : Int)) with hx541 | hx541
    · replace h := ct hx541 h
      refine wq_val (v := .pointer (some ⟨b2, 9, none⟩)) (val_ia (j := 1) tt_ok rfl rfl rfl rfl (by simpa using hx541) rfl rfl) rfl ?_
      refine wq_val (v := .agg #[.int .i32 (IntKind.wrap .i32 v28_0), .int .i32 (IntKind.wrap .i32 v33_0), .int .i32 (0 : Int), .int .i32 (0 : Int), .int .u8 (100 : Int), .int .u8 p0.Players.2.Cool, .int .u8 p0.Players.2.Face]) (val_load tt_ok rfl (List.Mem.tail _ (List.Mem.tail _ (List.Mem.tail _ (List.Mem.head _)))) rfl) rfl ?_
      replace h := bsome h; obtain ⟨v56, x56, h⟩ := h
      refine wq_cq Tryd.call77 rfl rfl rfl (q_pf (k_hindcastref09_Box x56) (fun _ _ => trivial)) rfl ?_
      replace h := bsome h; obtain ⟨v57, x57, h⟩ := h
      refine wq_cq Tryd.call76 rfl rfl rfl (q_pf (k_hindcastref07_Over x57) (fun _ _ => trivial)) rfl ?_
      refine wq_nil ?_
      refine wx_then ?_
      replace h := bsome h; obtain ⟨j36_n2_f2, h, hj36⟩ := h
      refine wc_join2 (fun E L => E = [(2, .pointer (some ⟨b2, 0, none⟩)), (4, .pointer (some ⟨b4, 0, none⟩))] ∧ L = (⟨b2, [.int .u64 p0.Frame, .int .u64 v33_1, .int .i32 j36_n2_f2.1.X, .int .i32 j36_n2_f2.1.Y, .int .i32 j36_n2_f2.1.VX, .int .i32 j36_n2_f2.1.VY, .int .u8 j36_n2_f2.1.Health, .int .u8 j36_n2_f2.1.Cool, .int .u8 j36_n2_f2.1.Face, .int .i32 j36_n2_f2.2.X, .int .i32 j36_n2_f2.2.Y, .int .i32 j36_n2_f2.2.VX, .int .i32 j36_n2_f2.2.VY, .int .u8 j36_n2_f2.2.Health, .int .u8 j36_n2_f2.2.Cool, .int .u8 j36_n2_f2.2.Face, .slice p0a0 p0n0 p0c0, .int .u16 p0.Score.1, .int .u16 p0.Score.2], 30, (0, 0)⟩ :: (⟨b4, [.int .u64 (0 : Int), .int .u64 (0 : Int), .int .i32 (0 : Int), .int .i32 (0 : Int), .int .i32 (0 : Int), .int .i32 (0 : Int), .int .u8 (0 : Int), .int .u8 (0 : Int), .int .u8 (0 : Int), .int .i32 (0 : Int), .int .i32 (0 : Int), .int .i32 (0 : Int), .int .i32 (0 : Int), .int .u8 (0 : Int), .int .u8 (0 : Int), .int .u8 (0 : Int), .slice none 0 0, .int .u16 (0 : Int), .int .u16 (0 : Int)], 30, (0, 0)⟩ :: (p0B0 ++ [])))) ?_ ?_
      · refine wc_cond rfl (fun hc => ?_) (fun hc => ?_)
        · replace h := ct hc h
          refine wc_region ?_
          refine wl_pure tt_ok rfl rfl ?_
          refine wl_val (v := .agg #[.int .i32 p0.Players.2.X, .int .i32 p0.Players.2.Y, .int .i32 (0 : Int), .int .i32 (0 : Int), .int .u8 (100 : Int), .int .u8 p0.Players.2.Cool, .int .u8 p0.Players.2.Face]) (val_load tt_ok rfl (List.Mem.tail _ (List.Mem.head _)) rfl) rfl ?_
          refine wl_pure (v := .pointer (some ⟨b2, 2, none⟩)) tt_ok rfl rfl ?_
          refine wl_val (v := .pointer (some ⟨b2, 9, none⟩)) (val_ia (j := 1) tt_ok rfl rfl rfl rfl (by simpa using hx131) rfl rfl) rfl ?_
          apply wl_store tt_ok; rfl; exact (Upd.there (Upd.there (Upd.there Upd.here))); rfl; rfl; rfl; rfl; rfl; rfl
          refine wl_nil ?_
          simp only [Option.some.injEq] at h
          obtain rfl := h
          exact wx_join ⟨rfl, rfl⟩ (agree_cons rfl (agree_cons rfl agree_nil)) (pSub (pCons (Sel.sc (Sel.sc (Sel.sc Sel.hc))) (pCons (Sel.sc (Sel.sc Sel.hc)) (pApp (Sel.sc (Sel.sc Sel.ha)) pNil))))
        replace h := cf hc h
        refine wc_skip ?_
        simp only [Option.some.injEq] at h
        obtain rfl := h
        exact wx_join ⟨rfl, rfl⟩ (agree_cons rfl (agree_cons rfl agree_nil)) (pSub (pCons (Sel.sc (Sel.sc (Sel.sc Sel.hc))) (pCons (Sel.sc (Sel.sc Sel.hc)) (pApp (Sel.sc (Sel.sc Sel.ha)) pNil))))
      rintro _ _ ⟨rfl, rfl⟩
      have h := hj36; clear hj36
      refine wc_seq ?_
      refine wc_region ?_
      refine wl_val (v := .agg #[.int .u64 p0.Frame, .int .u64 v33_1, .int .i32 j36_n2_f2.1.X, .int .i32 j36_n2_f2.1.Y, .int .i32 j36_n2_f2.1.VX, .int .i32 j36_n2_f2.1.VY, .int .u8 j36_n2_f2.1.Health, .int .u8 j36_n2_f2.1.Cool, .int .u8 j36_n2_f2.1.Face, .int .i32 j36_n2_f2.2.X, .int .i32 j36_n2_f2.2.Y, .int .i32 j36_n2_f2.2.VX, .int .i32 j36_n2_f2.2.VY, .int .u8 j36_n2_f2.2.Health, .int .u8 j36_n2_f2.2.Cool, .int .u8 j36_n2_f2.2.Face, .slice p0a0 p0n0 p0c0, .int .u16 p0.Score.1, .int .u16 p0.Score.2]) (val_load tt_ok rfl (List.Mem.head _) rfl) rfl ?_
      apply wl_store tt_ok; rfl; exact (Upd.there Upd.here); rfl; rfl; rfl; rfl; rfl; rfl
      refine wl_nil ?_
      refine wx_then ?_
      refine wc_ret ?_
      simp only [Option.some.injEq] at h
      obtain rfl := h
      exact wx_spD tt_ok (.inl rfl) Tryd.results58 (Res.cell rfl (List.Mem.tail _ (List.Mem.head _)) rfl Res.nil) ⟨p0a0, p0n0, p0c0, p0B0, p0N0, p0V0, rfl, rfl⟩ (fun F => by simp) (pSub (pApp (Sel.sc (Sel.sc Sel.ha)) pNil))
    replace h := cf hx541 h
    cases h
  replace h := cf hx131 h
  cases h

theorem k_hindcastref09_Step {F : Nat} {p0 : T_api_State} {p0a0 : Option Addr} {p0n0 p0c0 : Nat} {p1 : (Int × Int)} {r0 : T_api_State} (p0N0 : p0n0 = p0.Shots.length) (p0H0 : p0n0 ≤ p0c0) (h : m_hindcastref09_Step F p0 p1 = some r0) :
    SpD Tryd.prog 28 [.agg #[.int .u64 p0.Frame, .int .u64 p0.Seed, .int .i32 p0.Players.1.X, .int .i32 p0.Players.1.Y, .int .i32 p0.Players.1.VX, .int .i32 p0.Players.1.VY, .int .u8 p0.Players.1.Health, .int .u8 p0.Players.1.Cool, .int .u8 p0.Players.1.Face, .int .i32 p0.Players.2.X, .int .i32 p0.Players.2.Y, .int .i32 p0.Players.2.VX, .int .i32 p0.Players.2.VY, .int .u8 p0.Players.2.Health, .int .u8 p0.Players.2.Cool, .int .u8 p0.Players.2.Face, .slice p0a0 p0n0 p0c0, .int .u16 p0.Score.1, .int .u16 p0.Score.2], .agg #[.int .u8 p1.1, .int .u8 p1.2]] [] (fun w => Rds w (ids []) [] p0a0 (flat c_T_api_Shot p0.Shots)) (fun v D => ∃ (r0a0 : Option Addr) (r0n0 r0c0 : Nat) (r0B0 : List Blk), r0n0 = r0.Shots.length ∧ Own 66 6 r0a0 r0n0 r0c0 (flat c_T_api_Shot r0.Shots) r0B0 ∧ v = .agg #[.int .u64 r0.Frame, .int .u64 r0.Seed, .int .i32 r0.Players.1.X, .int .i32 r0.Players.1.Y, .int .i32 r0.Players.1.VX, .int .i32 r0.Players.1.VY, .int .u8 r0.Players.1.Health, .int .u8 r0.Players.1.Cool, .int .u8 r0.Players.1.Face, .int .i32 r0.Players.2.X, .int .i32 r0.Players.2.Y, .int .i32 r0.Players.2.VX, .int .i32 r0.Players.2.VY, .int .u8 r0.Players.2.Health, .int .u8 r0.Players.2.Cool, .int .u8 r0.Players.2.Face, .slice r0a0 r0n0 r0c0, .int .u16 r0.Score.1, .int .u16 r0.Score.2] ∧ D = fun F => (r0B0 ++ F)) := by
  unfold m_hindcastref09_Step at h
  refine sp_of_wc Tryd.func28 rfl Tryd.ntmps28 rfl rfl (fun w0 hR => ?_)
  have p0S0 := hR
  refine wc_seq ?_
  refine wc_region ?_
  refine wl_box rfl rfl rfl (fun b2 => ?_)
  refine wl_box rfl rfl rfl (fun b3 => ?_)
  refine wl_alloc tt_ok rfl rfl (fun b4 => ?_)
  refine wl_nil ?_
  refine wx_then ?_
  refine wc_seq ?_
  refine wc_region ?_
  refine wl_val (v := .agg #[.int .u64 p0.Frame, .int .u64 p0.Seed, .int .i32 p0.Players.1.X, .int .i32 p0.Players.1.Y, .int .i32 p0.Players.1.VX, .int .i32 p0.Players.1.VY, .int .u8 p0.Players.1.Health, .int .u8 p0.Players.1.Cool, .int .u8 p0.Players.1.Face, .int .i32 p0.Players.2.X, .int .i32 p0.Players.2.Y, .int .i32 p0.Players.2.VX, .int .i32 p0.Players.2.VY, .int .u8 p0.Players.2.Health, .int .u8 p0.Players.2.Cool, .int .u8 p0.Players.2.Face, .slice p0a0 p0n0 p0c0, .int .u16 p0.Score.1, .int .u16 p0.Score.2]) (val_load tt_ok rfl (List.Mem.tail _ (List.Mem.tail _ (List.Mem.head _))) rfl) rfl ?_
  replace h := bsome h; obtain ⟨v6, x6, h⟩ := h
  refine wl_cs Tryd.call9 rfl rfl rfl (s_sp (k_hindcastref08_Copy (p0 := p0) p0N0 p0H0 x6) pNil (Rds.call p0S0 pNil rsub_nil)) rfl ?_
  rintro _ _ ⟨_, ⟨v6a0, v6n0, v6c0, v6B0, v6N0, v6V0, rfl, rfl⟩, rfl⟩
  apply wl_store tt_ok; rfl; exact (Upd.right (Upd.there (Upd.there Upd.here))); rfl; rfl; rfl; rfl; rfl; rfl
  refine wl_nil ?_
  refine wx_then ?_
  refine wc_seq ?_
  refine wc_seq ?_
  refine wc_region ?_
  refine wl_val (v := .agg #[.int .u64 v6.Frame, .int .u64 v6.Seed, .int .i32 v6.Players.1.X, .int .i32 v6.Players.1.Y, .int .i32 v6.Players.1.VX, .int .i32 v6.Players.1.VY, .int .u8 v6.Players.1.Health, .int .u8 v6.Players.1.Cool, .int .u8 v6.Players.1.Face, .int .i32 v6.Players.2.X, .int .i32 v6.Players.2.Y, .int .i32 v6.Players.2.VX, .int .i32 v6.Players.2.VY, .int .u8 v6.Players.2.Health, .int .u8 v6.Players.2.Cool, .int .u8 v6.Players.2.Face, .slice v6a0 v6n0 v6c0, .int .u16 v6.Score.1, .int .u16 v6.Score.2]) (val_load tt_ok rfl (mR (List.Mem.tail _ (List.Mem.tail _ (List.Mem.head _)))) rfl) rfl ?_
  replace h := bsome h; obtain ⟨v8, x8, h⟩ := h
  refine wl_cq Tryd.call52 rfl rfl rfl (q_pf (k_hindcastref08_Check (p0 := v6) v6N0 (vec_cap v6V0) x8) (Rds.call (Rds.of_vec v6V0) pNil ⟨_, Sel.ha⟩)) rfl ?_
  refine wl_pure (v := .bool (v8 != (0 : Int))) tt_ok rfl rfl ?_
  refine wl_pure tt_ok rfl rfl ?_
  replace h := bsome h; obtain ⟨v15, h, hg15⟩ := h
  refine wl_split (t := 10) rfl (fun hc => ?_) (fun hc => ?_)
  · replace h := ct hc h
    refine wl_skip rfl rfl ?_
    refine wl_skip rfl rfl ?_
    refine wl_skip rfl rfl ?_
    refine wl_skip rfl rfl ?_
    simp only [Option.some.injEq, Prod.mk.injEq] at h
    obtain rfl := h
    have h := hg15; clear hg15
    refine wl_pure (v := .bool true) tt_ok rfl rfl ?_
    refine wl_pure tt_ok rfl rfl ?_
    replace h := bsome h; obtain ⟨v21, h, hg21⟩ := h
    replace h := ct rfl h
    refine wl_skip rfl rfl ?_
    refine wl_skip rfl rfl ?_
    refine wl_skip rfl rfl ?_
    refine wl_skip rfl rfl ?_
    simp only [Option.some.injEq, Prod.mk.injEq] at h
    obtain rfl := h
    have h := hg21; clear hg21
    refine wl_pure (v := .bool true) tt_ok rfl rfl ?_
    refine wl_nil ?_
    refine wx_then ?_
    replace h := ct rfl h
    refine wc_cond_true rfl ?_
    refine wc_seq ?_
    refine wc_region ?_
    refine wl_val (v := .agg #[.int .u64 v6.Frame, .int .u64 v6.Seed, .int .i32 v6.Players.1.X, .int .i32 v6.Players.1.Y, .int .i32 v6.Players.1.VX, .int .i32 v6.Players.1.VY, .int .u8 v6.Players.1.Health, .int .u8 v6.Players.1.Cool, .int .u8 v6.Players.1.Face, .int .i32 v6.Players.2.X, .int .i32 v6.Players.2.Y, .int .i32 v6.Players.2.VX, .int .i32 v6.Players.2.VY, .int .u8 v6.Players.2.Health, .int .u8 v6.Players.2.Cool, .int .u8 v6.Players.2.Face, .slice v6a0 v6n0 v6c0, .int .u16 v6.Score.1, .int .u16 v6.Score.2]) (val_load tt_ok rfl (mR (List.Mem.tail _ (List.Mem.tail _ (List.Mem.head _)))) rfl) rfl ?_
    apply wl_store tt_ok; rfl; exact (Upd.right Upd.here); rfl; rfl; rfl; rfl; rfl; rfl
    refine wl_nil ?_
    refine wx_then ?_
    refine wc_ret ?_
    refine wx_then_ret ?_
    simp only [Option.some.injEq] at h
    obtain rfl := h
    exact wx_spD tt_ok (.inl rfl) Tryd.results28 (Res.cell rfl (mR (List.Mem.head _)) rfl Res.nil) ⟨v6a0, v6n0, v6c0, v6B0, v6N0, v6V0, rfl, rfl⟩ (fun F => by simp) (pSub (pApp Sel.ha pNil))
  replace h := cf hc h
  refine wl_run rfl ?_
  refine wl_val (v := .pointer (some ⟨b3, 0, none⟩)) (val_ia (j := 0) tt_ok rfl rfl rfl rfl rfl rfl rfl) rfl ?_
  refine wl_run rfl ?_
  refine wl_val (v := .int .u8 p1.1) (val_load tt_ok rfl (mR (List.Mem.tail _ (List.Mem.head _))) rfl) rfl ?_
  replace h := bsome h; obtain ⟨v13, x13, h⟩ := h
  refine wl_run rfl ?_
  refine wl_cq Tryd.call53 rfl rfl rfl (q_pf (k_hindcastref06_Legal x13) (fun _ _ => trivial)) rfl ?_
  refine wl_run rfl ?_
  refine wl_pure (v := .bool (!v13)) tt_ok rfl rfl ?_
  simp only [Option.some.injEq, Prod.mk.injEq] at h
  obtain rfl := h
  have h := hg15; clear hg15
  refine wl_pure (v := .bool (!v13)) tt_ok rfl rfl ?_
  refine wl_pure tt_ok rfl rfl ?_
  replace h := bsome h; obtain ⟨v21, h, hg21⟩ := h
  refine wl_split (t := 16) rfl (fun hc => ?_) (fun hc => ?_)
  · replace h := ct hc h
    refine wl_skip rfl rfl ?_
    refine wl_skip rfl rfl ?_
    refine wl_skip rfl rfl ?_
    refine wl_skip rfl rfl ?_
    simp only [Option.some.injEq, Prod.mk.injEq] at h
    obtain rfl := h
    have h := hg21; clear hg21
    refine wl_pure (v := .bool true) tt_ok rfl rfl ?_
    refine wl_nil ?_
    refine wx_then ?_
    replace h := ct rfl h
    refine wc_cond_true rfl ?_
    refine wc_seq ?_
    refine wc_region ?_
    refine wl_val (v := .agg #[.int .u64 v6.Frame, .int .u64 v6.Seed, .int .i32 v6.Players.1.X, .int .i32 v6.Players.1.Y, .int .i32 v6.Players.1.VX, .int .i32 v6.Players.1.VY, .int .u8 v6.Players.1.Health, .int .u8 v6.Players.1.Cool, .int .u8 v6.Players.1.Face, .int .i32 v6.Players.2.X, .int .i32 v6.Players.2.Y, .int .i32 v6.Players.2.VX, .int .i32 v6.Players.2.VY, .int .u8 v6.Players.2.Health, .int .u8 v6.Players.2.Cool, .int .u8 v6.Players.2.Face, .slice v6a0 v6n0 v6c0, .int .u16 v6.Score.1, .int .u16 v6.Score.2]) (val_load tt_ok rfl (mR (List.Mem.tail _ (List.Mem.tail _ (List.Mem.head _)))) rfl) rfl ?_
    apply wl_store tt_ok; rfl; exact (Upd.right Upd.here); rfl; rfl; rfl; rfl; rfl; rfl
    refine wl_nil ?_
    refine wx_then ?_
    refine wc_ret ?_
    refine wx_then_ret ?_
    simp only [Option.some.injEq] at h
    obtain rfl := h
    exact wx_spD tt_ok (.inl rfl) Tryd.results28 (Res.cell rfl (mR (List.Mem.head _)) rfl Res.nil) ⟨v6a0, v6n0, v6c0, v6B0, v6N0, v6V0, rfl, rfl⟩ (fun F => by simp) (pSub (pApp Sel.ha pNil))
  replace h := cf hc h
  refine wl_run rfl ?_
  refine wl_val (v := .pointer (some ⟨b3, 1, none⟩)) (val_ia (j := 1) tt_ok rfl rfl rfl rfl rfl rfl rfl) rfl ?_
  refine wl_run rfl ?_
  refine wl_val (v := .int .u8 p1.2) (val_load tt_ok rfl (mR (List.Mem.tail _ (List.Mem.head _))) rfl) rfl ?_
  replace h := bsome h; obtain ⟨v19, x19, h⟩ := h
  refine wl_run rfl ?_
  refine wl_cq Tryd.call53 rfl rfl rfl (q_pf (k_hindcastref06_Legal x19) (fun _ _ => trivial)) rfl ?_
  refine wl_run rfl ?_
  refine wl_pure (v := .bool (!v19)) tt_ok rfl rfl ?_
  simp only [Option.some.injEq, Prod.mk.injEq] at h
  obtain rfl := h
  have h := hg21; clear hg21
  refine wl_pure (v := .bool (!v19)) tt_ok rfl rfl ?_
  refine wl_nil ?_
  refine wx_then ?_
  refine wc_cond rfl (fun hc => ?_) (fun hc => ?_)
  · replace h := ct hc h
    refine wc_seq ?_
    refine wc_region ?_
    refine wl_val (v := .agg #[.int .u64 v6.Frame, .int .u64 v6.Seed, .int .i32 v6.Players.1.X, .int .i32 v6.Players.1.Y, .int .i32 v6.Players.1.VX, .int .i32 v6.Players.1.VY, .int .u8 v6.Players.1.Health, .int .u8 v6.Players.1.Cool, .int .u8 v6.Players.1.Face, .int .i32 v6.Players.2.X, .int .i32 v6.Players.2.Y, .int .i32 v6.Players.2.VX, .int .i32 v6.Players.2.VY, .int .u8 v6.Players.2.Health, .int .u8 v6.Players.2.Cool, .int .u8 v6.Players.2.Face, .slice v6a0 v6n0 v6c0, .int .u16 v6.Score.1, .int .u16 v6.Score.2]) (val_load tt_ok rfl (mR (List.Mem.tail _ (List.Mem.tail _ (List.Mem.head _)))) rfl) rfl ?_
    apply wl_store tt_ok; rfl; exact (Upd.right Upd.here); rfl; rfl; rfl; rfl; rfl; rfl
    refine wl_nil ?_
    refine wx_then ?_
    refine wc_ret ?_
    refine wx_then_ret ?_
    simp only [Option.some.injEq] at h
    obtain rfl := h
    exact wx_spD tt_ok (.inl rfl) Tryd.results28 (Res.cell rfl (mR (List.Mem.head _)) rfl Res.nil) ⟨v6a0, v6n0, v6c0, v6B0, v6N0, v6V0, rfl, rfl⟩ (fun F => by simp) (pSub (pApp Sel.ha pNil))
  replace h := cf hc h
  refine wc_skip ?_
  refine wx_then ?_
  refine wc_seq ?_
  refine wc_region ?_
  refine wl_pure (v := .pointer (some ⟨b2, 2, none⟩)) tt_ok rfl rfl ?_
  refine wl_val (v := .pointer (some ⟨b2, 2, none⟩)) (val_ia (j := 0) tt_ok rfl rfl rfl rfl rfl rfl rfl) rfl ?_
  refine wl_val (v := .agg #[.int .i32 v6.Players.1.X, .int .i32 v6.Players.1.Y, .int .i32 v6.Players.1.VX, .int .i32 v6.Players.1.VY, .int .u8 v6.Players.1.Health, .int .u8 v6.Players.1.Cool, .int .u8 v6.Players.1.Face]) (val_load tt_ok rfl (mR (List.Mem.tail _ (List.Mem.tail _ (List.Mem.head _)))) rfl) rfl ?_
  refine wl_val (v := .pointer (some ⟨b3, 0, none⟩)) (val_ia (j := 0) tt_ok rfl rfl rfl rfl rfl rfl rfl) rfl ?_
  refine wl_val (v := .int .u8 p1.1) (val_load tt_ok rfl (mR (List.Mem.tail _ (List.Mem.head _))) rfl) rfl ?_
  replace h := bsome h; obtain ⟨v28, x28, h⟩ := h
  refine wl_cq Tryd.call54 rfl rfl rfl (q_pf (k_hindcastref09_one x28) (fun _ _ => trivial)) rfl ?_
  refine wl_pure (v := .pointer (some ⟨b2, 2, none⟩)) tt_ok rfl rfl ?_
  refine wl_val (v := .pointer (some ⟨b2, 2, none⟩)) (val_ia (j := 0) tt_ok rfl rfl rfl rfl rfl rfl rfl) rfl ?_
  apply wl_store tt_ok; rfl; exact (Upd.right (Upd.there (Upd.there Upd.here))); rfl; rfl; rfl; rfl; rfl; rfl
  refine wl_nil ?_
  refine wx_then ?_
  refine wc_seq ?_
  refine wc_region ?_
  refine wl_pure (v := .pointer (some ⟨b2, 2, none⟩)) tt_ok rfl rfl ?_
  refine wl_val (v := .pointer (some ⟨b2, 9, none⟩)) (val_ia (j := 1) tt_ok rfl rfl rfl rfl rfl rfl rfl) rfl ?_
  refine wl_val (v := .agg #[.int .i32 v6.Players.2.X, .int .i32 v6.Players.2.Y, .int .i32 v6.Players.2.VX, .int .i32 v6.Players.2.VY, .int .u8 v6.Players.2.Health, .int .u8 v6.Players.2.Cool, .int .u8 v6.Players.2.Face]) (val_load tt_ok rfl (mR (List.Mem.tail _ (List.Mem.tail _ (List.Mem.head _)))) rfl) rfl ?_
  refine wl_val (v := .pointer (some ⟨b3, 1, none⟩)) (val_ia (j := 1) tt_ok rfl rfl rfl rfl rfl rfl rfl) rfl ?_
  refine wl_val (v := .int .u8 p1.2) (val_load tt_ok rfl (mR (List.Mem.tail _ (List.Mem.head _))) rfl) rfl ?_
  replace h := bsome h; obtain ⟨v36, x36, h⟩ := h
  refine wl_cq Tryd.call54 rfl rfl rfl (q_pf (k_hindcastref09_one x36) (fun _ _ => trivial)) rfl ?_
  refine wl_pure (v := .pointer (some ⟨b2, 2, none⟩)) tt_ok rfl rfl ?_
  refine wl_val (v := .pointer (some ⟨b2, 9, none⟩)) (val_ia (j := 1) tt_ok rfl rfl rfl rfl rfl rfl rfl) rfl ?_
  apply wl_store tt_ok; rfl; exact (Upd.right (Upd.there (Upd.there Upd.here))); rfl; rfl; rfl; rfl; rfl; rfl
  refine wl_nil ?_
  refine wx_then ?_
  refine wc_seq ?_
  refine wc_region ?_
  refine wl_val (v := .agg #[.int .u64 v6.Frame, .int .u64 v6.Seed, .int .i32 v28.X, .int .i32 v28.Y, .int .i32 v28.VX, .int .i32 v28.VY, .int .u8 v28.Health, .int .u8 v28.Cool, .int .u8 v28.Face, .int .i32 v36.X, .int .i32 v36.Y, .int .i32 v36.VX, .int .i32 v36.VY, .int .u8 v36.Health, .int .u8 v36.Cool, .int .u8 v36.Face, .slice v6a0 v6n0 v6c0, .int .u16 v6.Score.1, .int .u16 v6.Score.2]) (val_load tt_ok rfl (mR (List.Mem.tail _ (List.Mem.tail _ (List.Mem.head _)))) rfl) rfl ?_
  refine wl_val (v := .agg #[.int .u8 p1.1, .int .u8 p1.2]) (val_load tt_ok rfl (mR (List.Mem.tail _ (List.Mem.head _))) rfl) rfl ?_
  replace h := bsome h; obtain ⟨v41, x41, h⟩ := h
  refine wl_cs Tryd.call55 rfl rfl rfl (s_sp (k_hindcastref09_two_o0 (p0 := (T_api_State.mk v6.Frame v6.Seed (v28, v36) v6.Shots v6.Score)) v6N0 v6V0 x41) (pApp Sel.ha pNil) (fun _ _ => trivial)) rfl ?_
  rintro _ _ ⟨_, ⟨v41a0, v41n0, v41c0, v41B0, v41N0, v41V0, rfl, rfl⟩, rfl⟩
  apply wl_store tt_ok; rfl; exact (Upd.right (Upd.there (Upd.there Upd.here))); rfl; rfl; rfl; rfl; rfl; rfl
  refine wl_nil ?_
  refine wx_then ?_
  refine wc_seq ?_
  refine wc_region ?_
  refine wl_val (v := .agg #[.int .u64 v41.Frame, .int .u64 v41.Seed, .int .i32 v41.Players.1.X, .int .i32 v41.Players.1.Y, .int .i32 v41.Players.1.VX, .int .i32 v41.Players.1.VY, .int .u8 v41.Players.1.Health, .int .u8 v41.Players.1.Cool, .int .u8 v41.Players.1.Face, .int .i32 v41.Players.2.X, .int .i32 v41.Players.2.Y, .int .i32 v41.Players.2.VX, .int .i32 v41.Players.2.VY, .int .u8 v41.Players.2.Health, .int .u8 v41.Players.2.Cool, .int .u8 v41.Players.2.Face, .slice v41a0 v41n0 v41c0, .int .u16 v41.Score.1, .int .u16 v41.Score.2]) (val_load tt_ok rfl (mR (List.Mem.tail _ (List.Mem.tail _ (List.Mem.head _)))) rfl) rfl ?_
  replace h := bsome h; obtain ⟨v43, x43, h⟩ := h
  refine wl_cs Tryd.call56 rfl rfl rfl (s_sp (k_hindcastref09_three_o0 (p0 := v41) v41N0 v41V0 x43) (pApp Sel.ha pNil) (fun _ _ => trivial)) rfl ?_
  rintro _ _ ⟨_, ⟨v43a0, v43n0, v43c0, v43B0, v43N0, v43V0, rfl, rfl⟩, rfl⟩
  apply wl_store tt_ok; rfl; exact (Upd.right (Upd.there (Upd.there Upd.here))); rfl; rfl; rfl; rfl; rfl; rfl
  refine wl_nil ?_
  refine wx_then ?_
  refine wc_seq ?_
  refine wc_region ?_
  refine wl_val (v := .agg #[.int .u64 v43.Frame, .int .u64 v43.Seed, .int .i32 v43.Players.1.X, .int .i32 v43.Players.1.Y, .int .i32 v43.Players.1.VX, .int .i32 v43.Players.1.VY, .int .u8 v43.Players.1.Health, .int .u8 v43.Players.1.Cool, .int .u8 v43.Players.1.Face, .int .i32 v43.Players.2.X, .int .i32 v43.Players.2.Y, .int .i32 v43.Players.2.VX, .int .i32 v43.Players.2.VY, .int .u8 v43.Players.2.Health, .int .u8 v43.Players.2.Cool, .int .u8 v43.Players.2.Face, .slice v43a0 v43n0 v43c0, .int .u16 v43.Score.1, .int .u16 v43.Score.2]) (val_load tt_ok rfl (mR (List.Mem.tail _ (List.Mem.tail _ (List.Mem.head _)))) rfl) rfl ?_
  replace h := bsome h; obtain ⟨v45, x45, h⟩ := h
  refine wl_cs Tryd.call57 rfl rfl rfl (s_sp (k_hindcastref09_four (p0 := v43) v43N0 (vec_cap v43V0) x45) pNil (Rds.call (Rds.of_vec v43V0) pNil ⟨_, Sel.ha⟩)) rfl ?_
  rintro _ _ ⟨_, ⟨v45a0, v45n0, v45c0, v45B0, v45N0, v45V0, rfl, rfl⟩, rfl⟩
  apply wl_store tt_ok; rfl; exact (Upd.right (Upd.right (Upd.there (Upd.there Upd.here)))); rfl; rfl; rfl; rfl; rfl; rfl
  refine wl_nil ?_
  refine wx_then ?_
  refine wc_seq ?_
  refine wc_region ?_
  refine wl_val (v := .agg #[.int .u64 v45.Frame, .int .u64 v45.Seed, .int .i32 v45.Players.1.X, .int .i32 v45.Players.1.Y, .int .i32 v45.Players.1.VX, .int .i32 v45.Players.1.VY, .int .u8 v45.Players.1.Health, .int .u8 v45.Players.1.Cool, .int .u8 v45.Players.1.Face, .int .i32 v45.Players.2.X, .int .i32 v45.Players.2.Y, .int .i32 v45.Players.2.VX, .int .i32 v45.Players.2.VY, .int .u8 v45.Players.2.Health, .int .u8 v45.Players.2.Cool, .int .u8 v45.Players.2.Face, .slice v45a0 v45n0 v45c0, .int .u16 v45.Score.1, .int .u16 v45.Score.2]) (val_load tt_ok rfl (mR (mR (List.Mem.tail _ (List.Mem.tail _ (List.Mem.head _))))) rfl) rfl ?_
  replace h := bsome h; obtain ⟨v47, x47, h⟩ := h
  refine wl_cs Tryd.call58 rfl rfl rfl (s_sp (k_hindcastref09_five_o0 (p0 := v45) v45N0 v45V0 x47) (pApp Sel.ha pNil) (fun _ _ => trivial)) rfl ?_
  rintro _ _ ⟨_, ⟨v47a0, v47n0, v47c0, v47B0, v47N0, v47V0, rfl, rfl⟩, rfl⟩
  apply wl_store tt_ok; rfl; exact (Upd.right (Upd.right (Upd.there (Upd.there Upd.here)))); rfl; rfl; rfl; rfl; rfl; rfl
  refine wl_nil ?_
  refine wx_then ?_
  refine wc_seq ?_
  refine wc_region ?_
  refine wl_val (v := .agg #[.int .u64 v47.Frame, .int .u64 v47.Seed, .int .i32 v47.Players.1.X, .int .i32 v47.Players.1.Y, .int .i32 v47.Players.1.VX, .int .i32 v47.Players.1.VY, .int .u8 v47.Players.1.Health, .int .u8 v47.Players.1.Cool, .int .u8 v47.Players.1.Face, .int .i32 v47.Players.2.X, .int .i32 v47.Players.2.Y, .int .i32 v47.Players.2.VX, .int .i32 v47.Players.2.VY, .int .u8 v47.Players.2.Health, .int .u8 v47.Players.2.Cool, .int .u8 v47.Players.2.Face, .slice v47a0 v47n0 v47c0, .int .u16 v47.Score.1, .int .u16 v47.Score.2]) (val_load tt_ok rfl (mR (mR (List.Mem.tail _ (List.Mem.tail _ (List.Mem.head _))))) rfl) rfl ?_
  replace h := bsome h; obtain ⟨v49, x49, h⟩ := h
  refine wl_cs Tryd.call58 rfl rfl rfl (s_sp (k_hindcastref09_five_o0 (p0 := v47) v47N0 v47V0 x49) (pApp Sel.ha pNil) (fun _ _ => trivial)) rfl ?_
  rintro _ _ ⟨_, ⟨v49a0, v49n0, v49c0, v49B0, v49N0, v49V0, rfl, rfl⟩, rfl⟩
  apply wl_store tt_ok; rfl; exact (Upd.right (Upd.right (Upd.there (Upd.there Upd.here)))); rfl; rfl; rfl; rfl; rfl; rfl
  refine wl_nil ?_
  refine wx_then ?_
  refine wc_seq ?_
  refine wc_region ?_
  refine wl_pure (v := .pointer (some ⟨b2, 0, none⟩)) tt_ok rfl rfl ?_
  refine wl_val (v := .int .u64 v49.Frame) (val_load tt_ok rfl (mR (mR (List.Mem.tail _ (List.Mem.tail _ (List.Mem.head _))))) rfl) rfl ?_
  refine wl_pure (v := .int .u64 (IntKind.wrap .u64 (v49.Frame + (1 : Int)))) tt_ok rfl rfl ?_
  refine wl_pure (v := .pointer (some ⟨b2, 0, none⟩)) tt_ok rfl rfl ?_
  apply wl_store tt_ok; rfl; exact (Upd.right (Upd.right (Upd.there (Upd.there Upd.here)))); rfl; rfl; rfl; rfl; rfl; rfl
  refine wl_nil ?_
  refine wx_then ?_
  refine wc_seq ?_
  refine wc_region ?_
  refine wl_val (v := .agg #[.int .u64 (IntKind.wrap .u64 (v49.Frame + (1 : Int))), .int .u64 v49.Seed, .int .i32 v49.Players.1.X, .int .i32 v49.Players.1.Y, .int .i32 v49.Players.1.VX, .int .i32 v49.Players.1.VY, .int .u8 v49.Players.1.Health, .int .u8 v49.Players.1.Cool, .int .u8 v49.Players.1.Face, .int .i32 v49.Players.2.X, .int .i32 v49.Players.2.Y, .int .i32 v49.Players.2.VX, .int .i32 v49.Players.2.VY, .int .u8 v49.Players.2.Health, .int .u8 v49.Players.2.Cool, .int .u8 v49.Players.2.Face, .slice v49a0 v49n0 v49c0, .int .u16 v49.Score.1, .int .u16 v49.Score.2]) (val_load tt_ok rfl (mR (mR (List.Mem.tail _ (List.Mem.tail _ (List.Mem.head _))))) rfl) rfl ?_
  apply wl_store tt_ok; rfl; exact (Upd.right (Upd.right Upd.here)); rfl; rfl; rfl; rfl; rfl; rfl
  refine wl_nil ?_
  refine wx_then ?_
  refine wc_ret ?_
  simp only [Option.some.injEq] at h
  obtain rfl := h
  exact wx_spD tt_ok (.inl rfl) Tryd.results28 (Res.cell rfl (mR (mR (List.Mem.head _))) rfl Res.nil) ⟨v49a0, v49n0, v49c0, v49B0, v49N0, v49V0, rfl, rfl⟩ (fun F => by simp) (pSub (pApp Sel.ha pNil))

theorem k_hindcastref11_Fold {F : Nat} {p0 : T_api_State} {p0a0 : Option Addr} {p0n0 p0c0 : Nat} {p1 : (List (Int × Int))} {p1a0 : Option Addr} {p1n0 p1c0 : Nat} {r0 : T_api_State} (p0N0 : p0n0 = p0.Shots.length) (p0H0 : p0n0 ≤ p0c0) (p1N0 : p1n0 = p1.length) (p1H0 : p1n0 ≤ p1c0) (h : m_hindcastref11_Fold F p0 p1 = some r0) :
    SpD Tryd.prog 12 [.agg #[.int .u64 p0.Frame, .int .u64 p0.Seed, .int .i32 p0.Players.1.X, .int .i32 p0.Players.1.Y, .int .i32 p0.Players.1.VX, .int .i32 p0.Players.1.VY, .int .u8 p0.Players.1.Health, .int .u8 p0.Players.1.Cool, .int .u8 p0.Players.1.Face, .int .i32 p0.Players.2.X, .int .i32 p0.Players.2.Y, .int .i32 p0.Players.2.VX, .int .i32 p0.Players.2.VY, .int .u8 p0.Players.2.Health, .int .u8 p0.Players.2.Cool, .int .u8 p0.Players.2.Face, .slice p0a0 p0n0 p0c0, .int .u16 p0.Score.1, .int .u16 p0.Score.2], .slice p1a0 p1n0 p1c0] [] (fun w => Rds w (ids []) [] p0a0 (flat c_T_api_Shot p0.Shots) ∧ Rds w (ids []) [] p1a0 (flat (e2 .u8) p1)) (fun v D => ∃ (r0a0 : Option Addr) (r0n0 r0c0 : Nat) (r0B0 : List Blk), r0n0 = r0.Shots.length ∧ Own 66 6 r0a0 r0n0 r0c0 (flat c_T_api_Shot r0.Shots) r0B0 ∧ v = .agg #[.int .u64 r0.Frame, .int .u64 r0.Seed, .int .i32 r0.Players.1.X, .int .i32 r0.Players.1.Y, .int .i32 r0.Players.1.VX, .int .i32 r0.Players.1.VY, .int .u8 r0.Players.1.Health, .int .u8 r0.Players.1.Cool, .int .u8 r0.Players.1.Face, .int .i32 r0.Players.2.X, .int .i32 r0.Players.2.Y, .int .i32 r0.Players.2.VX, .int .i32 r0.Players.2.VY, .int .u8 r0.Players.2.Health, .int .u8 r0.Players.2.Cool, .int .u8 r0.Players.2.Face, .slice r0a0 r0n0 r0c0, .int .u16 r0.Score.1, .int .u16 r0.Score.2] ∧ D = fun F => (r0B0 ++ F)) := by
  unfold m_hindcastref11_Fold at h
  refine sp_of_wc Tryd.func12 rfl Tryd.ntmps12 rfl rfl (fun w0 hR => ?_)
  obtain ⟨p0S0, p1S0⟩ := hR
  refine wc_seq ?_
  refine wc_region ?_
  refine wl_box rfl rfl rfl (fun b2 => ?_)
  refine wl_alloc tt_ok rfl rfl (fun b4 => ?_)
  refine wl_nil ?_
  refine wx_then ?_
  refine wc_seq ?_
  refine wc_region ?_
  refine wl_val (v := .agg #[.int .u64 p0.Frame, .int .u64 p0.Seed, .int .i32 p0.Players.1.X, .int .i32 p0.Players.1.Y, .int .i32 p0.Players.1.VX, .int .i32 p0.Players.1.VY, .int .u8 p0.Players.1.Health, .int .u8 p0.Players.1.Cool, .int .u8 p0.Players.1.Face, .int .i32 p0.Players.2.X, .int .i32 p0.Players.2.Y, .int .i32 p0.Players.2.VX, .int .i32 p0.Players.2.VY, .int .u8 p0.Players.2.Health, .int .u8 p0.Players.2.Cool, .int .u8 p0.Players.2.Face, .slice p0a0 p0n0 p0c0, .int .u16 p0.Score.1, .int .u16 p0.Score.2]) (val_load tt_ok rfl (List.Mem.tail _ (List.Mem.head _)) rfl) rfl ?_
  replace h := bsome h; obtain ⟨v7, x7, h⟩ := h
  refine wl_cs Tryd.call9 rfl rfl rfl (s_sp (k_hindcastref08_Copy (p0 := p0) p0N0 p0H0 x7) pNil (Rds.call p0S0 pNil rsub_nil)) rfl ?_
  rintro _ _ ⟨_, ⟨v7a0, v7n0, v7c0, v7B0, v7N0, v7V0, rfl, rfl⟩, rfl⟩
  apply wl_store tt_ok; rfl; exact (Upd.right (Upd.there Upd.here)); rfl; rfl; rfl; rfl; rfl; rfl
  refine wl_nil ?_
  refine wx_then ?_
  refine wc_seq ?_
  refine wc_seq ?_
  refine wc_region ?_
  refine wl_pure tt_ok rfl rfl ?_
  refine wl_nil ?_
  refine wx_then ?_
  refine wc_block ?_
  replace h := bsome h; obtain ⟨⟨l9_n2_f0, l9_n2_f1, l9_n2_f2, l9_n2_f3, l9_n2_f4⟩, h, hl9⟩ := h; try dsimp only at hl9
  refine wc_loop (fun m E L => ∃ (j9_5 : Int) (j9_n2_f0 : Int) (j9_n2_f1 : Int) (j9_n2_f2 : (T_api_Player × T_api_Player)) (j9_n2_f3 : (List T_api_Shot)) (j9_n2_f4 : (Int × Int)) (j9_n2_f3a0 : Option Addr) (j9_n2_f3n0 : Nat) (j9_n2_f3c0 : Nat) (j9_n2_f3B0 : List Blk), m_hindcastref11_Fold_L8 F p1 m j9_5 j9_n2_f0 j9_n2_f1 j9_n2_f2 j9_n2_f3 j9_n2_f4 = some (l9_n2_f0, l9_n2_f1, l9_n2_f2, l9_n2_f3, l9_n2_f4) ∧ j9_n2_f3n0 = j9_n2_f3.length ∧ Own 66 6 j9_n2_f3a0 j9_n2_f3n0 j9_n2_f3c0 (flat c_T_api_Shot j9_n2_f3) j9_n2_f3B0 ∧ E = [(1, .slice p1a0 p1n0 p1c0), (2, .pointer (some ⟨b2, 0, none⟩)), (4, .pointer (some ⟨b4, 0, none⟩)), (5, .int .i64 j9_5)] ∧ L = (⟨b2, [.int .u64 j9_n2_f0, .int .u64 j9_n2_f1, .int .i32 j9_n2_f2.1.X, .int .i32 j9_n2_f2.1.Y, .int .i32 j9_n2_f2.1.VX, .int .i32 j9_n2_f2.1.VY, .int .u8 j9_n2_f2.1.Health, .int .u8 j9_n2_f2.1.Cool, .int .u8 j9_n2_f2.1.Face, .int .i32 j9_n2_f2.2.X, .int .i32 j9_n2_f2.2.Y, .int .i32 j9_n2_f2.2.VX, .int .i32 j9_n2_f2.2.VY, .int .u8 j9_n2_f2.2.Health, .int .u8 j9_n2_f2.2.Cool, .int .u8 j9_n2_f2.2.Face, .slice j9_n2_f3a0 j9_n2_f3n0 j9_n2_f3c0, .int .u16 j9_n2_f4.1, .int .u16 j9_n2_f4.2], 30, (0, 0)⟩ :: (⟨b4, [.int .u64 (0 : Int), .int .u64 (0 : Int), .int .i32 (0 : Int), .int .i32 (0 : Int), .int .i32 (0 : Int), .int .i32 (0 : Int), .int .u8 (0 : Int), .int .u8 (0 : Int), .int .u8 (0 : Int), .int .i32 (0 : Int), .int .i32 (0 : Int), .int .i32 (0 : Int), .int .i32 (0 : Int), .int .u8 (0 : Int), .int .u8 (0 : Int), .int .u8 (0 : Int), .slice none 0 0, .int .u16 (0 : Int), .int .u16 (0 : Int)], 30, (0, 0)⟩ :: (j9_n2_f3B0 ++ [])))) F ⟨(0 : Int), v7.Frame, v7.Seed, v7.Players, v7.Shots, v7.Score, v7a0, v7n0, v7c0, v7B0, h, v7N0, v7V0, rfl, rfl⟩ (agree_cons rfl (agree_cons rfl (agree_cons rfl (agree_cons rfl agree_nil)))) (pSub (pCons (Sel.sa (Sel.sc Sel.hc)) (pCons (Sel.sa Sel.hc) (pApp Sel.ha pNil)))) ?_
  clear h
  rintro m9 _ _ ⟨j9_5, j9_n2_f0, j9_n2_f1, j9_n2_f2, j9_n2_f3, j9_n2_f4, j9_n2_f3a0, j9_n2_f3n0, j9_n2_f3c0, j9_n2_f3B0, h, j9_n2_f3N0, j9_n2_f3V0, rfl, rfl⟩
  rcases m9 with _ | m9
  · rw [m_hindcastref11_Fold_L8.eq_1] at h; cases h
  rw [m_hindcastref11_Fold_L8.eq_2] at h
  refine wc_seq ?_
  refine wc_seq ?_
  refine wc_region ?_
  refine wl_pure tt_ok rfl rfl ?_
  refine wl_pure tt_ok rfl rfl ?_
  refine wl_val (v := .int .i64 (p1.length : Int)) (val_len tt_ok rfl rfl p1N0) rfl ?_
  refine wl_pure (v := .bool (decide (j9_5 < (p1.length : Int)))) tt_ok rfl rfl ?_
  refine wl_nil ?_
  refine wx_then ?_
  refine wc_cond rfl (fun hc => ?_) (fun hc => ?_)
  · replace h := ct hc h
    refine wc_skip ?_
    refine wx_then ?_
    refine wc_seq ?_
    refine wc_block ?_
    refine wc_k2 (Ls := (⟨b2, [.int .u64 j9_n2_f0, .int .u64 j9_n2_f1, .int .i32 j9_n2_f2.1.X, .int .i32 j9_n2_f2.1.Y, .int .i32 j9_n2_f2.1.VX, .int .i32 j9_n2_f2.1.VY, .int .u8 j9_n2_f2.1.Health, .int .u8 j9_n2_f2.1.Cool, .int .u8 j9_n2_f2.1.Face, .int .i32 j9_n2_f2.2.X, .int .i32 j9_n2_f2.2.Y, .int .i32 j9_n2_f2.2.VX, .int .i32 j9_n2_f2.2.VY, .int .u8 j9_n2_f2.2.Health, .int .u8 j9_n2_f2.2.Cool, .int .u8 j9_n2_f2.2.Face, .slice j9_n2_f3a0 j9_n2_f3n0 j9_n2_f3c0, .int .u16 j9_n2_f4.1, .int .u16 j9_n2_f4.2], 30, (0, 0)⟩ :: (⟨b4, [.int .u64 (0 : Int), .int .u64 (0 : Int), .int .i32 (0 : Int), .int .i32 (0 : Int), .int .i32 (0 : Int), .int .i32 (0 : Int), .int .u8 (0 : Int), .int .u8 (0 : Int), .int .u8 (0 : Int), .int .i32 (0 : Int), .int .i32 (0 : Int), .int .i32 (0 : Int), .int .i32 (0 : Int), .int .u8 (0 : Int), .int .u8 (0 : Int), .int .u8 (0 : Int), .slice none 0 0, .int .u16 (0 : Int), .int .u16 (0 : Int)], 30, (0, 0)⟩ :: (j9_n2_f3B0 ++ [])))) [5, 6] [5, 6] [0, 0, 0, 6, 14, 31, 63] [0, 1, 2, 3, 4, 5, 6] (by kernel_rfl) (by kernel_rfl) (by kernel_rfl) ?_
    refine k_val (v := .agg #[.int .u64 j9_n2_f0, .int .u64 j9_n2_f1, .int .i32 j9_n2_f2.1.X, .int .i32 j9_n2_f2.1.Y, .int .i32 j9_n2_f2.1.VX, .int .i32 j9_n2_f2.1.VY, .int .u8 j9_n2_f2.1.Health, .int .u8 j9_n2_f2.1.Cool, .int .u8 j9_n2_f2.1.Face, .int .i32 j9_n2_f2.2.X, .int .i32 j9_n2_f2.2.Y, .int .i32 j9_n2_f2.2.VX, .int .i32 j9_n2_f2.2.VY, .int .u8 j9_n2_f2.2.Health, .int .u8 j9_n2_f2.2.Cool, .int .u8 j9_n2_f2.2.Face, .slice j9_n2_f3a0 j9_n2_f3n0 j9_n2_f3c0, .int .u16 j9_n2_f4.1, .int .u16 j9_n2_f4.2]) rfl rfl rfl (pSub (pCons Sel.hc (pCons Sel.hc (pApp Sel.ha pNil)))) (val_load tt_ok rfl (List.Mem.head _) rfl) rfl ?_
    refine k_val rfl rfl rfl (pSub (pCons Sel.hc (pCons Sel.hc (pApp Sel.ha pNil)))) (stepV_ok tt_ok rfl) rfl ?_
    refine k_val rfl rfl rfl (pSub (pCons Sel.hc (pCons Sel.hc (pApp Sel.ha pNil)))) (stepV_ok tt_ok rfl) rfl ?_
    replace h := bsome h; obtain ⟨v17, x17, h⟩ := h
    refine k_val (v := .pointer (some ((adOf p1a0).add (j9_5.toNat * 2 + 0)))) rfl rfl rfl (pSub (pCons Sel.hc (pCons Sel.hc (pApp Sel.ha pNil)))) (val_ix (enc := (e2 .u8)) tt_ok rfl rfl rfl rfl p1N0 p1S0 (e2_len _) rfl x17) rfl ?_
    refine k_val (v := .agg #[.int .u8 v17.1, .int .u8 v17.2]) rfl rfl rfl (pSub (pCons Sel.hc (pCons Sel.hc (pApp Sel.ha pNil)))) (val_le (enc := (e2 .u8)) (xs := p1) tt_ok rfl p1S0 rsub_nil (e2_len _) x17 rfl) rfl ?_
    replace h := bsome h; obtain ⟨v19, x19, h⟩ := h
    refine k_cs rfl rfl rfl Tryd.call28 rfl rfl rfl (s_sp (k_hindcastref09_Step (p0 := (T_api_State.mk j9_n2_f0 j9_n2_f1 j9_n2_f2 j9_n2_f3 j9_n2_f4)) j9_n2_f3N0 (vec_cap j9_n2_f3V0) x19) pNil (Rds.call (Rds.of_vec j9_n2_f3V0) pNil ⟨_, (Sel.sc (Sel.sc Sel.ha))⟩)) rfl (.inl rfl) ?_
    rintro _ _ ⟨_, ⟨v19a0, v19n0, v19c0, v19B0, v19N0, v19V0, rfl, rfl⟩, rfl⟩
    refine k_chg0 rfl rfl rfl (chg_store tt_ok rfl (Upd.right Upd.here) rfl rfl rfl rfl rfl rfl) (.inl rfl) ?_
    rintro _ _ rfl
    refine k_end (by kernel_rfl) ?_
    refine wx_block ?_
    refine wx_then ?_
    refine wc_region ?_
    refine wl_pure tt_ok rfl rfl ?_
    refine wl_pure (v := .int .i64 (IntKind.wrap .i64 (j9_5 + (1 : Int)))) tt_ok rfl rfl ?_
    refine wl_pure tt_ok rfl rfl ?_
    refine wl_nil ?_
    exact wx_round m9 (Nat.lt_succ_self m9) ⟨(IntKind.wrap .i64 (j9_5 + (1 : Int))), v19.Frame, v19.Seed, v19.Players, v19.Shots, v19.Score, v19a0, v19n0, v19c0, v19B0, h, v19N0, v19V0, rfl, rfl⟩ (agree_cons rfl (agree_cons rfl (agree_cons rfl (agree_cons rfl agree_nil)))) (pSub (pCons (Sel.sa Sel.hc) (pCons (Sel.sa Sel.hc) (pApp Sel.ha pNil))))
  replace h := cf hc h
  refine wc_exit ?_
  refine wx_then_exit ?_
  simp only [Option.some.injEq, Prod.mk.injEq] at h
  obtain ⟨rfl, rfl, rfl, rfl, rfl⟩ := h
  have h := hl9; clear hl9; try dsimp only [orE_l, orE_r] at h
  refine wx_then_exit ?_
  refine wx_block_exit ?_
  refine wx_then ?_
  refine wc_seq ?_
  refine wc_region ?_
  refine wl_val (v := .agg #[.int .u64 j9_n2_f0, .int .u64 j9_n2_f1, .int .i32 j9_n2_f2.1.X, .int .i32 j9_n2_f2.1.Y, .int .i32 j9_n2_f2.1.VX, .int .i32 j9_n2_f2.1.VY, .int .u8 j9_n2_f2.1.Health, .int .u8 j9_n2_f2.1.Cool, .int .u8 j9_n2_f2.1.Face, .int .i32 j9_n2_f2.2.X, .int .i32 j9_n2_f2.2.Y, .int .i32 j9_n2_f2.2.VX, .int .i32 j9_n2_f2.2.VY, .int .u8 j9_n2_f2.2.Health, .int .u8 j9_n2_f2.2.Cool, .int .u8 j9_n2_f2.2.Face, .slice j9_n2_f3a0 j9_n2_f3n0 j9_n2_f3c0, .int .u16 j9_n2_f4.1, .int .u16 j9_n2_f4.2]) (val_load tt_ok rfl (List.Mem.head _) rfl) rfl ?_
  apply wl_store tt_ok; rfl; exact (Upd.there Upd.here); rfl; rfl; rfl; rfl; rfl; rfl
  refine wl_nil ?_
  refine wx_then ?_
  refine wc_ret ?_
  simp only [Option.some.injEq] at h
  obtain rfl := h
  exact wx_spD tt_ok (.inl rfl) Tryd.results12 (Res.cell rfl (List.Mem.tail _ (List.Mem.head _)) rfl Res.nil) ⟨j9_n2_f3a0, j9_n2_f3n0, j9_n2_f3c0, j9_n2_f3B0, j9_n2_f3N0, j9_n2_f3V0, rfl, rfl⟩ (fun F => by simp) (pSub (pApp (Sel.sc (Sel.sc Sel.ha)) pNil))

theorem k_hindcastref08_Same {F : Nat} {p0 : T_api_State} {p0a0 : Option Addr} {p0n0 p0c0 : Nat} {p1 : T_api_State} {p1a0 : Option Addr} {p1n0 p1c0 : Nat} {r0 : Bool} (p0N0 : p0n0 = p0.Shots.length) (p0H0 : p0n0 ≤ p0c0) (p1N0 : p1n0 = p1.Shots.length) (p1H0 : p1n0 ≤ p1c0) (h : m_hindcastref08_Same F p0 p1 = some r0) :
    Pf Tryd.prog 10 [.agg #[.int .u64 p0.Frame, .int .u64 p0.Seed, .int .i32 p0.Players.1.X, .int .i32 p0.Players.1.Y, .int .i32 p0.Players.1.VX, .int .i32 p0.Players.1.VY, .int .u8 p0.Players.1.Health, .int .u8 p0.Players.1.Cool, .int .u8 p0.Players.1.Face, .int .i32 p0.Players.2.X, .int .i32 p0.Players.2.Y, .int .i32 p0.Players.2.VX, .int .i32 p0.Players.2.VY, .int .u8 p0.Players.2.Health, .int .u8 p0.Players.2.Cool, .int .u8 p0.Players.2.Face, .slice p0a0 p0n0 p0c0, .int .u16 p0.Score.1, .int .u16 p0.Score.2], .agg #[.int .u64 p1.Frame, .int .u64 p1.Seed, .int .i32 p1.Players.1.X, .int .i32 p1.Players.1.Y, .int .i32 p1.Players.1.VX, .int .i32 p1.Players.1.VY, .int .u8 p1.Players.1.Health, .int .u8 p1.Players.1.Cool, .int .u8 p1.Players.1.Face, .int .i32 p1.Players.2.X, .int .i32 p1.Players.2.Y, .int .i32 p1.Players.2.VX, .int .i32 p1.Players.2.VY, .int .u8 p1.Players.2.Health, .int .u8 p1.Players.2.Cool, .int .u8 p1.Players.2.Face, .slice p1a0 p1n0 p1c0, .int .u16 p1.Score.1, .int .u16 p1.Score.2]] (fun w => Rds w [] [] p0a0 (flat c_T_api_Shot p0.Shots) ∧ Rds w [] [] p1a0 (flat c_T_api_Shot p1.Shots)) (.bool r0) := by
  unfold m_hindcastref08_Same at h
  refine pf_of_wc Tryd.func10 rfl Tryd.ntmps10 rfl rfl (fun w0 hR => ?_)
  obtain ⟨p0S0, p1S0⟩ := hR
  refine wc_seq ?_
  refine wc_region ?_
  refine wl_box rfl rfl rfl (fun b2 => ?_)
  refine wl_box rfl rfl rfl (fun b3 => ?_)
  refine wl_pure tt_ok rfl rfl ?_
  refine wl_nil ?_
  refine wx_then ?_
  refine wc_seq ?_
  refine wc_seq ?_
  refine wc_region ?_
  refine wl_pure (v := .pointer (some ⟨b2, 0, none⟩)) tt_ok rfl rfl ?_
  refine wl_val (v := .int .u64 p0.Frame) (val_load tt_ok rfl (List.Mem.tail _ (List.Mem.head _)) rfl) rfl ?_
  refine wl_pure (v := .pointer (some ⟨b3, 0, none⟩)) tt_ok rfl rfl ?_
  refine wl_val (v := .int .u64 p1.Frame) (val_load tt_ok rfl (List.Mem.head _) rfl) rfl ?_
  refine wl_pure (v := .bool (p0.Frame != p1.Frame)) tt_ok rfl rfl ?_
  refine wl_pure tt_ok rfl rfl ?_
  replace h := bsome h; obtain ⟨v17, h, hg17⟩ := h
  refine wl_split (t := 11) rfl (fun hc => ?_) (fun hc => ?_)
  · replace h := ct hc h
    refine wl_skip rfl rfl ?_
    refine wl_skip rfl rfl ?_
    refine wl_skip rfl rfl ?_
    refine wl_skip rfl rfl ?_
    refine wl_skip rfl rfl ?_
    simp only [Option.some.injEq, Prod.mk.injEq] at h
    obtain rfl := h
    have h := hg17; clear hg17
    refine wl_pure (v := .bool true) tt_ok rfl rfl ?_
    refine wl_pure tt_ok rfl rfl ?_
    replace h := bsome h; obtain ⟨v26, h, hg26⟩ := h
    replace h := ct rfl h
    refine wl_skip rfl rfl ?_
    refine wl_skip rfl rfl ?_
    refine wl_skip rfl rfl ?_
    refine wl_skip rfl rfl ?_
    refine wl_skip rfl rfl ?_
    refine wl_skip rfl rfl ?_
    refine wl_skip rfl rfl ?_
    simp only [Option.some.injEq, Prod.mk.injEq] at h
    obtain rfl := h
    have h := hg26; clear hg26
    refine wl_pure (v := .bool true) tt_ok rfl rfl ?_
    refine wl_pure tt_ok rfl rfl ?_
    replace h := bsome h; obtain ⟨v35, h, hg35⟩ := h
    replace h := ct rfl h
    refine wl_skip rfl rfl ?_
    refine wl_skip rfl rfl ?_
    refine wl_skip rfl rfl ?_
    refine wl_skip rfl rfl ?_
    refine wl_skip rfl rfl ?_
    refine wl_skip rfl rfl ?_
    refine wl_skip rfl rfl ?_
    simp only [Option.some.injEq, Prod.mk.injEq] at h
    obtain rfl := h
    have h := hg35; clear hg35
    refine wl_pure (v := .bool true) tt_ok rfl rfl ?_
    refine wl_pure tt_ok rfl rfl ?_
    replace h := bsome h; obtain ⟨v42, h, hg42⟩ := h
    replace h := ct rfl h
    refine wl_skip rfl rfl ?_
    refine wl_skip rfl rfl ?_
    refine wl_skip rfl rfl ?_
    refine wl_skip rfl rfl ?_
    refine wl_skip rfl rfl ?_
    simp only [Option.some.injEq, Prod.mk.injEq] at h
    obtain rfl := h
    have h := hg42; clear hg42
    refine wl_pure (v := .bool true) tt_ok rfl rfl ?_
    refine wl_pure tt_ok rfl rfl ?_
    replace h := bsome h; obtain ⟨v51, h, hg51⟩ := h
    replace h := ct rfl h
    refine wl_skip rfl rfl ?_
    refine wl_skip rfl rfl ?_
    refine wl_skip rfl rfl ?_
    refine wl_skip rfl rfl ?_
    refine wl_skip rfl rfl ?_
    refine wl_skip rfl rfl ?_
    refine wl_skip rfl rfl ?_
    simp only [Option.some.injEq, Prod.mk.injEq] at h
    obtain rfl := h
    have h := hg51; clear hg51
    refine wl_pure (v := .bool true) tt_ok rfl rfl ?_
    refine wl_nil ?_
    refine wx_then ?_
    replace h := ct rfl h
    refine wc_cond_true rfl ?_
    refine wc_seq ?_
    refine wc_region ?_
    refine wl_pure tt_ok rfl rfl ?_
    refine wl_nil ?_
    refine wx_then ?_
    refine wc_ret ?_
    refine wx_then_ret ?_
    simp only [Option.some.injEq] at h
    obtain rfl := h
    exact wx_pf tt_ok (.inl rfl) Tryd.results10 (Res.tmp rfl Res.nil) rfl
  replace h := cf hc h
  refine wl_run rfl ?_
  refine wl_pure (v := .pointer (some ⟨b2, 1, none⟩)) tt_ok rfl rfl ?_
  refine wl_run rfl ?_
  refine wl_val (v := .int .u64 p0.Seed) (val_load tt_ok rfl (List.Mem.tail _ (List.Mem.head _)) rfl) rfl ?_
  refine wl_run rfl ?_
  refine wl_pure (v := .pointer (some ⟨b3, 1, none⟩)) tt_ok rfl rfl ?_
  refine wl_run rfl ?_
  refine wl_val (v := .int .u64 p1.Seed) (val_load tt_ok rfl (List.Mem.head _) rfl) rfl ?_
  refine wl_run rfl ?_
  refine wl_pure (v := .bool (p0.Seed != p1.Seed)) tt_ok rfl rfl ?_
  simp only [Option.some.injEq, Prod.mk.injEq] at h
  obtain rfl := h
  have h := hg17; clear hg17
  refine wl_pure (v := .bool (p0.Seed != p1.Seed)) tt_ok rfl rfl ?_
  refine wl_pure tt_ok rfl rfl ?_
  replace h := bsome h; obtain ⟨v26, h, hg26⟩ := h
  refine wl_split (t := 18) rfl (fun hc => ?_) (fun hc => ?_)
  · replace h := ct hc h
    refine wl_skip rfl rfl ?_
    refine wl_skip rfl rfl ?_
    refine wl_skip rfl rfl ?_
    refine wl_skip rfl rfl ?_
    refine wl_skip rfl rfl ?_
    refine wl_skip rfl rfl ?_
    refine wl_skip rfl rfl ?_
    simp only [Option.some.injEq, Prod.mk.injEq] at h
    obtain rfl := h
    have h := hg26; clear hg26
    refine wl_pure (v := .bool true) tt_ok rfl rfl ?_
    refine wl_pure tt_ok rfl rfl ?_
    replace h := bsome h; obtain ⟨v35, h, hg35⟩ := h
    replace h := ct rfl h
    refine wl_skip rfl rfl ?_
    refine wl_skip rfl rfl ?_
    refine wl_skip rfl rfl ?_
    refine wl_skip rfl rfl ?_
    refine wl_skip rfl rfl ?_
    refine wl_skip rfl rfl ?_
    refine wl_skip rfl rfl ?_
    simp only [Option.some.injEq, Prod.mk.injEq] at h
    obtain rfl := h
    have h := hg35; clear hg35
    refine wl_pure (v := .bool true) tt_ok rfl rfl ?_
    refine wl_pure tt_ok rfl rfl ?_
    replace h := bsome h; obtain ⟨v42, h, hg42⟩ := h
    replace h := ct rfl h
    refine wl_skip rfl rfl ?_
    refine wl_skip rfl rfl ?_
    refine wl_skip rfl rfl ?_
    refine wl_skip rfl rfl ?_
    refine wl_skip rfl rfl ?_
    simp only [Option.some.injEq, Prod.mk.injEq] at h
    obtain rfl := h
    have h := hg42; clear hg42
    refine wl_pure (v := .bool true) tt_ok rfl rfl ?_
    refine wl_pure tt_ok rfl rfl ?_
    replace h := bsome h; obtain ⟨v51, h, hg51⟩ := h
    replace h := ct rfl h
    refine wl_skip rfl rfl ?_
    refine wl_skip rfl rfl ?_
    refine wl_skip rfl rfl ?_
    refine wl_skip rfl rfl ?_
    refine wl_skip rfl rfl ?_
    refine wl_skip rfl rfl ?_
    refine wl_skip rfl rfl ?_
    simp only [Option.some.injEq, Prod.mk.injEq] at h
    obtain rfl := h
    have h := hg51; clear hg51
    refine wl_pure (v := .bool true) tt_ok rfl rfl ?_
    refine wl_nil ?_
    refine wx_then ?_
    replace h := ct rfl h
    refine wc_cond_true rfl ?_
    refine wc_seq ?_
    refine wc_region ?_
    refine wl_pure tt_ok rfl rfl ?_
    refine wl_nil ?_
    refine wx_then ?_
    refine wc_ret ?_
    refine wx_then_ret ?_
    simp only [Option.some.injEq] at h
    obtain rfl := h
    exact wx_pf tt_ok (.inl rfl) Tryd.results10 (Res.tmp rfl Res.nil) rfl
  replace h := cf hc h
  refine wl_run rfl ?_
  refine wl_pure (v := .pointer (some ⟨b2, 2, none⟩)) tt_ok rfl rfl ?_
  refine wl_run rfl ?_
  refine wl_val (v := .pointer (some ⟨b2, 2, none⟩)) (val_ia (j := 0) tt_ok rfl rfl rfl rfl rfl rfl rfl) rfl ?_
  refine wl_run rfl ?_
  refine wl_val (v := .agg #[.int .i32 p0.Players.1.X, .int .i32 p0.Players.1.Y, .int .i32 p0.Players.1.VX, .int .i32 p0.Players.1.VY, .int .u8 p0.Players.1.Health, .int .u8 p0.Players.1.Cool, .int .u8 p0.Players.1.Face]) (val_load tt_ok rfl (List.Mem.tail _ (List.Mem.head _)) rfl) rfl ?_
  refine wl_run rfl ?_
  refine wl_pure (v := .pointer (some ⟨b3, 2, none⟩)) tt_ok rfl rfl ?_
  refine wl_run rfl ?_
  refine wl_val (v := .pointer (some ⟨b3, 2, none⟩)) (val_ia (j := 0) tt_ok rfl rfl rfl rfl rfl rfl rfl) rfl ?_
  refine wl_run rfl ?_
  refine wl_val (v := .agg #[.int .i32 p1.Players.1.X, .int .i32 p1.Players.1.Y, .int .i32 p1.Players.1.VX, .int .i32 p1.Players.1.VY, .int .u8 p1.Players.1.Health, .int .u8 p1.Players.1.Cool, .int .u8 p1.Players.1.Face]) (val_load tt_ok rfl (List.Mem.head _) rfl) rfl ?_
  refine wl_run rfl ?_
  refine wl_val (v := .bool (!((p0.Players.1.X == p1.Players.1.X) && ((p0.Players.1.Y == p1.Players.1.Y) && ((p0.Players.1.VX == p1.Players.1.VX) && ((p0.Players.1.VY == p1.Players.1.VY) && ((p0.Players.1.Health == p1.Players.1.Health) && ((p0.Players.1.Cool == p1.Players.1.Cool) && (p0.Players.1.Face == p1.Players.1.Face))))))))) (val_nes tt_ok tt_eq tt_one Tryd.eqGuardType24 rfl rfl rfl rfl rfl) rfl ?_
  simp only [Option.some.injEq, Prod.mk.injEq] at h
  obtain rfl := h
  have h := hg26; clear hg26
  refine wl_pure (v := .bool (!((p0.Players.1.X == p1.Players.1.X) && ((p0.Players.1.Y == p1.Players.1.Y) && ((p0.Players.1.VX == p1.Players.1.VX) && ((p0.Players.1.VY == p1.Players.1.VY) && ((p0.Players.1.Health == p1.Players.1.Health) && ((p0.Players.1.Cool == p1.Players.1.Cool) && (p0.Players.1.Face == p1.Players.1.Face))))))))) tt_ok rfl rfl ?_
  refine wl_pure tt_ok rfl rfl ?_
  replace h := bsome h; obtain ⟨v35, h, hg35⟩ := h
  refine wl_split (t := 27) rfl (fun hc => ?_) (fun hc => ?_)
  · replace h := ct hc h
    refine wl_skip rfl rfl ?_
    refine wl_skip rfl rfl ?_
    refine wl_skip rfl rfl ?_
    refine wl_skip rfl rfl ?_
    refine wl_skip rfl rfl ?_
    refine wl_skip rfl rfl ?_
    refine wl_skip rfl rfl ?_
    simp only [Option.some.injEq, Prod.mk.injEq] at h
    obtain rfl := h
    have h := hg35; clear hg35
    refine wl_pure (v := .bool true) tt_ok rfl rfl ?_
    refine wl_pure tt_ok rfl rfl ?_
    replace h := bsome h; obtain ⟨v42, h, hg42⟩ := h
    replace h := ct rfl h
    refine wl_skip rfl rfl ?_
    refine wl_skip rfl rfl ?_
    refine wl_skip rfl rfl ?_
    refine wl_skip rfl rfl ?_
    refine wl_skip rfl rfl ?_
    simp only [Option.some.injEq, Prod.mk.injEq] at h
    obtain rfl := h
    have h := hg42; clear hg42
    refine wl_pure (v := .bool true) tt_ok rfl rfl ?_
    refine wl_pure tt_ok rfl rfl ?_
    replace h := bsome h; obtain ⟨v51, h, hg51⟩ := h
    replace h := ct rfl h
    refine wl_skip rfl rfl ?_
    refine wl_skip rfl rfl ?_
    refine wl_skip rfl rfl ?_
    refine wl_skip rfl rfl ?_
    refine wl_skip rfl rfl ?_
    refine wl_skip rfl rfl ?_
    refine wl_skip rfl rfl ?_
    simp only [Option.some.injEq, Prod.mk.injEq] at h
    obtain rfl := h
    have h := hg51; clear hg51
    refine wl_pure (v := .bool true) tt_ok rfl rfl ?_
    refine wl_nil ?_
    refine wx_then ?_
    replace h := ct rfl h
    refine wc_cond_true rfl ?_
    refine wc_seq ?_
    refine wc_region ?_
    refine wl_pure tt_ok rfl rfl ?_
    refine wl_nil ?_
    refine wx_then ?_
    refine wc_ret ?_
    refine wx_then_ret ?_
    simp only [Option.some.injEq] at h
    obtain rfl := h
    exact wx_pf tt_ok (.inl rfl) Tryd.results10 (Res.tmp rfl Res.nil) rfl
  replace h := cf hc h
  refine wl_run rfl ?_
  refine wl_pure (v := .pointer (some ⟨b2, 2, none⟩)) tt_ok rfl rfl ?_
  refine wl_run rfl ?_
  refine wl_val (v := .pointer (some ⟨b2, 9, none⟩)) (val_ia (j := 1) tt_ok rfl rfl rfl rfl rfl rfl rfl) rfl ?_
  refine wl_run rfl ?_
  refine wl_val (v := .agg #[.int .i32 p0.Players.2.X, .int .i32 p0.Players.2.Y, .int .i32 p0.Players.2.VX, .int .i32 p0.Players.2.VY, .int .u8 p0.Players.2.Health, .int .u8 p0.Players.2.Cool, .int .u8 p0.Players.2.Face]) (val_load tt_ok rfl (List.Mem.tail _ (List.Mem.head _)) rfl) rfl ?_
  refine wl_run rfl ?_
  refine wl_pure (v := .pointer (some ⟨b3, 2, none⟩)) tt_ok rfl rfl ?_
  refine wl_run rfl ?_
  refine wl_val (v := .pointer (some ⟨b3, 9, none⟩)) (val_ia (j := 1) tt_ok rfl rfl rfl rfl rfl rfl rfl) rfl ?_
  refine wl_run rfl ?_
  refine wl_val (v := .agg #[.int .i32 p1.Players.2.X, .int .i32 p1.Players.2.Y, .int .i32 p1.Players.2.VX, .int .i32 p1.Players.2.VY, .int .u8 p1.Players.2.Health, .int .u8 p1.Players.2.Cool, .int .u8 p1.Players.2.Face]) (val_load tt_ok rfl (List.Mem.head _) rfl) rfl ?_
  refine wl_run rfl ?_
  refine wl_val (v := .bool (!((p0.Players.2.X == p1.Players.2.X) && ((p0.Players.2.Y == p1.Players.2.Y) && ((p0.Players.2.VX == p1.Players.2.VX) && ((p0.Players.2.VY == p1.Players.2.VY) && ((p0.Players.2.Health == p1.Players.2.Health) && ((p0.Players.2.Cool == p1.Players.2.Cool) && (p0.Players.2.Face == p1.Players.2.Face))))))))) (val_nes tt_ok tt_eq tt_one Tryd.eqGuardType24 rfl rfl rfl rfl rfl) rfl ?_
  simp only [Option.some.injEq, Prod.mk.injEq] at h
  obtain rfl := h
  have h := hg35; clear hg35
  refine wl_pure (v := .bool (!((p0.Players.2.X == p1.Players.2.X) && ((p0.Players.2.Y == p1.Players.2.Y) && ((p0.Players.2.VX == p1.Players.2.VX) && ((p0.Players.2.VY == p1.Players.2.VY) && ((p0.Players.2.Health == p1.Players.2.Health) && ((p0.Players.2.Cool == p1.Players.2.Cool) && (p0.Players.2.Face == p1.Players.2.Face))))))))) tt_ok rfl rfl ?_
  refine wl_pure tt_ok rfl rfl ?_
  replace h := bsome h; obtain ⟨v42, h, hg42⟩ := h
  refine wl_split (t := 36) rfl (fun hc => ?_) (fun hc => ?_)
  · replace h := ct hc h
    refine wl_skip rfl rfl ?_
    refine wl_skip rfl rfl ?_
    refine wl_skip rfl rfl ?_
    refine wl_skip rfl rfl ?_
    refine wl_skip rfl rfl ?_
    simp only [Option.some.injEq, Prod.mk.injEq] at h
    obtain rfl := h
    have h := hg42; clear hg42
    refine wl_pure (v := .bool true) tt_ok rfl rfl ?_
    refine wl_pure tt_ok rfl rfl ?_
    replace h := bsome h; obtain ⟨v51, h, hg51⟩ := h
    replace h := ct rfl h
    refine wl_skip rfl rfl ?_
    refine wl_skip rfl rfl ?_
    refine wl_skip rfl rfl ?_
    refine wl_skip rfl rfl ?_
    refine wl_skip rfl rfl ?_
    refine wl_skip rfl rfl ?_
    refine wl_skip rfl rfl ?_
    simp only [Option.some.injEq, Prod.mk.injEq] at h
    obtain rfl := h
    have h := hg51; clear hg51
    refine wl_pure (v := .bool true) tt_ok rfl rfl ?_
    refine wl_nil ?_
    refine wx_then ?_
    replace h := ct rfl h
    refine wc_cond_true rfl ?_
    refine wc_seq ?_
    refine wc_region ?_
    refine wl_pure tt_ok rfl rfl ?_
    refine wl_nil ?_
    refine wx_then ?_
    refine wc_ret ?_
    refine wx_then_ret ?_
    simp only [Option.some.injEq] at h
    obtain rfl := h
    exact wx_pf tt_ok (.inl rfl) Tryd.results10 (Res.tmp rfl Res.nil) rfl
  replace h := cf hc h
  refine wl_run rfl ?_
  refine wl_pure (v := .pointer (some ⟨b2, 17, none⟩)) tt_ok rfl rfl ?_
  refine wl_run rfl ?_
  refine wl_val (v := .agg #[.int .u16 p0.Score.1, .int .u16 p0.Score.2]) (val_load tt_ok rfl (List.Mem.tail _ (List.Mem.head _)) rfl) rfl ?_
  refine wl_run rfl ?_
  refine wl_pure (v := .pointer (some ⟨b3, 17, none⟩)) tt_ok rfl rfl ?_
  refine wl_run rfl ?_
  refine wl_val (v := .agg #[.int .u16 p1.Score.1, .int .u16 p1.Score.2]) (val_load tt_ok rfl (List.Mem.head _) rfl) rfl ?_
  refine wl_run rfl ?_
  refine wl_val (v := .bool (!((p0.Score.1 == p1.Score.1) && (p0.Score.2 == p1.Score.2)))) (val_nes tt_ok tt_eq tt_one Tryd.eqGuardType28 rfl rfl rfl rfl rfl) rfl ?_
  simp only [Option.some.injEq, Prod.mk.injEq] at h
  obtain rfl := h
  have h := hg42; clear hg42
  refine wl_pure (v := .bool (!((p0.Score.1 == p1.Score.1) && (p0.Score.2 == p1.Score.2)))) tt_ok rfl rfl ?_
  refine wl_pure tt_ok rfl rfl ?_
  replace h := bsome h; obtain ⟨v51, h, hg51⟩ := h
  refine wl_split (t := 43) rfl (fun hc => ?_) (fun hc => ?_)
  · replace h := ct hc h
    refine wl_skip rfl rfl ?_
    refine wl_skip rfl rfl ?_
    refine wl_skip rfl rfl ?_
    refine wl_skip rfl rfl ?_
    refine wl_skip rfl rfl ?_
    refine wl_skip rfl rfl ?_
    refine wl_skip rfl rfl ?_
    simp only [Option.some.injEq, Prod.mk.injEq] at h
    obtain rfl := h
    have h := hg51; clear hg51
    refine wl_pure (v := .bool true) tt_ok rfl rfl ?_
    refine wl_nil ?_
    refine wx_then ?_
    replace h := ct rfl h
    refine wc_cond_true rfl ?_
    refine wc_seq ?_
    refine wc_region ?_
    refine wl_pure tt_ok rfl rfl ?_
    refine wl_nil ?_
    refine wx_then ?_
    refine wc_ret ?_
    refine wx_then_ret ?_
    simp only [Option.some.injEq] at h
    obtain rfl := h
    exact wx_pf tt_ok (.inl rfl) Tryd.results10 (Res.tmp rfl Res.nil) rfl
  replace h := cf hc h
  refine wl_run rfl ?_
  refine wl_pure (v := .pointer (some ⟨b2, 16, none⟩)) tt_ok rfl rfl ?_
  refine wl_run rfl ?_
  refine wl_val (v := .slice p0a0 p0n0 p0c0) (val_load tt_ok rfl (List.Mem.tail _ (List.Mem.head _)) rfl) rfl ?_
  refine wl_run rfl ?_
  refine wl_val (v := .int .i64 (p0.Shots.length : Int)) (val_len tt_ok rfl rfl p0N0) rfl ?_
  refine wl_run rfl ?_
  refine wl_pure (v := .pointer (some ⟨b3, 16, none⟩)) tt_ok rfl rfl ?_
  refine wl_run rfl ?_
  refine wl_val (v := .slice p1a0 p1n0 p1c0) (val_load tt_ok rfl (List.Mem.head _) rfl) rfl ?_
  refine wl_run rfl ?_
  refine wl_val (v := .int .i64 (p1.Shots.length : Int)) (val_len tt_ok rfl rfl p1N0) rfl ?_
  refine wl_run rfl ?_
  refine wl_pure (v := .bool ((p0.Shots.length : Int) != (p1.Shots.length : Int))) tt_ok rfl rfl ?_
  simp only [Option.some.injEq, Prod.mk.injEq] at h
  obtain rfl := h
  have h := hg51; clear hg51
  refine wl_pure (v := .bool ((p0.Shots.length : Int) != (p1.Shots.length : Int))) tt_ok rfl rfl ?_
  refine wl_nil ?_
  refine wx_then ?_
  refine wc_cond rfl (fun hc => ?_) (fun hc => ?_)
  · replace h := ct hc h
    refine wc_seq ?_
    refine wc_region ?_
    refine wl_pure tt_ok rfl rfl ?_
    refine wl_nil ?_
    refine wx_then ?_
    refine wc_ret ?_
    refine wx_then_ret ?_
    simp only [Option.some.injEq] at h
    obtain rfl := h
    exact wx_pf tt_ok (.inl rfl) Tryd.results10 (Res.tmp rfl Res.nil) rfl
  replace h := cf hc h
  refine wc_skip ?_
  refine wx_then ?_
  refine wc_seq ?_
  refine wc_seq ?_
  refine wc_region ?_
  refine wl_pure tt_ok rfl rfl ?_
  refine wl_nil ?_
  refine wx_then ?_
  refine wc_block ?_
  replace h := bsome h; obtain ⟨o15, h, hl15⟩ := h
  refine wc_loop (fun m E L => ∃ (j15_5 : Int), m_hindcastref08_Same_L14 F p0 p1 m j15_5 = some o15 ∧ E = [(2, .pointer (some ⟨b2, 0, none⟩)), (3, .pointer (some ⟨b3, 0, none⟩)), (4, .bool false), (5, .int .i64 j15_5)] ∧ L = (⟨b2, [.int .u64 p0.Frame, .int .u64 p0.Seed, .int .i32 p0.Players.1.X, .int .i32 p0.Players.1.Y, .int .i32 p0.Players.1.VX, .int .i32 p0.Players.1.VY, .int .u8 p0.Players.1.Health, .int .u8 p0.Players.1.Cool, .int .u8 p0.Players.1.Face, .int .i32 p0.Players.2.X, .int .i32 p0.Players.2.Y, .int .i32 p0.Players.2.VX, .int .i32 p0.Players.2.VY, .int .u8 p0.Players.2.Health, .int .u8 p0.Players.2.Cool, .int .u8 p0.Players.2.Face, .slice p0a0 p0n0 p0c0, .int .u16 p0.Score.1, .int .u16 p0.Score.2], 30, (0, 0)⟩ :: (⟨b3, [.int .u64 p1.Frame, .int .u64 p1.Seed, .int .i32 p1.Players.1.X, .int .i32 p1.Players.1.Y, .int .i32 p1.Players.1.VX, .int .i32 p1.Players.1.VY, .int .u8 p1.Players.1.Health, .int .u8 p1.Players.1.Cool, .int .u8 p1.Players.1.Face, .int .i32 p1.Players.2.X, .int .i32 p1.Players.2.Y, .int .i32 p1.Players.2.VX, .int .i32 p1.Players.2.VY, .int .u8 p1.Players.2.Health, .int .u8 p1.Players.2.Cool, .int .u8 p1.Players.2.Face, .slice p1a0 p1n0 p1c0, .int .u16 p1.Score.1, .int .u16 p1.Score.2], 30, (0, 0)⟩ :: []))) F ⟨(0 : Int), h, rfl, rfl⟩ (agree_cons rfl (agree_cons rfl (agree_cons rfl (agree_cons rfl agree_nil)))) (pSub (pCons (Sel.sc Sel.hc) (pCons Sel.hc pNil))) ?_
  clear h
  rintro m15 _ _ ⟨j15_5, h, rfl, rfl⟩
  rcases m15 with _ | m15
  · rw [m_hindcastref08_Same_L14.eq_1] at h; cases h
  rw [m_hindcastref08_Same_L14.eq_2] at h
  refine wc_seq ?_
  refine wc_seq ?_
  refine wc_region ?_
  refine wl_pure tt_ok rfl rfl ?_
  refine wl_pure (v := .pointer (some ⟨b2, 16, none⟩)) tt_ok rfl rfl ?_
  refine wl_val (v := .slice p0a0 p0n0 p0c0) (val_load tt_ok rfl (List.Mem.head _) rfl) rfl ?_
  refine wl_val (v := .int .i64 (p0.Shots.length : Int)) (val_len tt_ok rfl rfl p0N0) rfl ?_
  refine wl_pure (v := .bool (decide (j15_5 < (p0.Shots.length : Int)))) tt_ok rfl rfl ?_
  refine wl_nil ?_
  refine wx_then ?_
  refine wc_cond rfl (fun hc => ?_) (fun hc => ?_)
  · replace h := ct hc h
    refine wc_skip ?_
    refine wx_then ?_
    refine wc_seq ?_
    refine wc_block ?_
    refine wc_seq ?_
    refine wc_quiet (by kernel_rfl) (by kernel_rfl) ?_
    refine wq_pure (v := .pointer (some ⟨b2, 16, none⟩)) tt_ok rfl rfl ?_
    refine wq_val (v := .slice p0a0 p0n0 p0c0) (val_load tt_ok rfl (List.Mem.head _) rfl) rfl ?_
    refine wq_pure tt_ok rfl rfl ?_
    replace h := bsome h; obtain ⟨v62, x62, h⟩ := h
    refine wq_val (v := .pointer (some ((adOf p0a0).add (j15_5.toNat * 6 + 0)))) (val_ix (enc := c_T_api_Shot) tt_ok rfl rfl rfl rfl p0N0 p0S0 c_T_api_Shot_len rfl x62) rfl ?_
    refine wq_val (v := .agg #[.int .i32 v62.X, .int .i32 v62.Y, .int .i32 v62.VX, .int .i32 v62.VY, .int .u8 v62.Owner, .int .u8 v62.Life]) (val_le (enc := c_T_api_Shot) (xs := p0.Shots) tt_ok rfl p0S0 rsub_nil c_T_api_Shot_len x62 rfl) rfl ?_
    refine wq_pure (v := .pointer (some ⟨b3, 16, none⟩)) tt_ok rfl rfl ?_
    refine wq_val (v := .slice p1a0 p1n0 p1c0) (val_load tt_ok rfl (List.Mem.tail _ (List.Mem.head _)) rfl) rfl ?_
    refine wq_pure tt_ok rfl rfl ?_
    replace h := bsome h; obtain ⟨v67, x67, h⟩ := h
    refine wq_val (v := .pointer (some ((adOf p1a0).add (j15_5.toNat * 6 + 0)))) (val_ix (enc := c_T_api_Shot) tt_ok rfl rfl rfl rfl p1N0 p1S0 c_T_api_Shot_len rfl x67) rfl ?_
    refine wq_val (v := .agg #[.int .i32 v67.X, .int .i32 v67.Y, .int .i32 v67.VX, .int .i32 v67.VY, .int .u8 v67.Owner, .int .u8 v67.Life]) (val_le (enc := c_T_api_Shot) (xs := p1.Shots) tt_ok rfl p1S0 rsub_nil c_T_api_Shot_len x67 rfl) rfl ?_
    refine wq_val (v := .bool (!((v62.X == v67.X) && ((v62.Y == v67.Y) && ((v62.VX == v67.VX) && ((v62.VY == v67.VY) && ((v62.Owner == v67.Owner) && (v62.Life == v67.Life)))))))) (val_nes tt_ok tt_eq tt_one Tryd.eqGuardType66 rfl rfl rfl rfl rfl) rfl ?_
    refine wq_nil ?_
    refine wx_then ?_
    refine wc_cond rfl (fun hc => ?_) (fun hc => ?_)
    · replace h := ct hc h
      refine wc_seq ?_
      refine wc_region ?_
      refine wl_pure tt_ok rfl rfl ?_
      refine wl_nil ?_
      refine wx_then ?_
      refine wc_ret ?_
      refine wx_block_ret ?_
      refine wx_then_ret ?_
      obtain rfl := Option.some.inj h
      have h := hl15; clear hl15; try dsimp only [orE_l, orE_r] at h
      refine wx_then_ret ?_
      refine wx_block_ret ?_
      refine wx_then_ret ?_
      simp only [Option.some.injEq] at h
      obtain rfl := h
      exact wx_pf tt_ok (.inl rfl) Tryd.results10 (Res.tmp rfl Res.nil) rfl
    replace h := cf hc h
    refine wc_skip ?_
    refine wx_block ?_
    refine wx_then ?_
    refine wc_region ?_
    refine wl_pure tt_ok rfl rfl ?_
    refine wl_pure (v := .int .i64 (IntKind.wrap .i64 (j15_5 + (1 : Int)))) tt_ok rfl rfl ?_
    refine wl_pure tt_ok rfl rfl ?_
    refine wl_nil ?_
    exact wx_round m15 (Nat.lt_succ_self m15) ⟨(IntKind.wrap .i64 (j15_5 + (1 : Int))), h, rfl, rfl⟩ (agree_cons rfl (agree_cons rfl (agree_cons rfl (agree_cons rfl agree_nil)))) (pSub (pCons Sel.hc (pCons Sel.hc pNil)))
  replace h := cf hc h
  refine wc_exit ?_
  refine wx_then_exit ?_
  obtain rfl := Option.some.inj h
  have h := hl15; clear hl15; try dsimp only [orE_l, orE_r] at h
  refine wx_then_exit ?_
  refine wx_block_exit ?_
  refine wx_then ?_
  refine wc_seq ?_
  refine wc_region ?_
  refine wl_pure tt_ok rfl rfl ?_
  refine wl_nil ?_
  refine wx_then ?_
  refine wc_ret ?_
  simp only [Option.some.injEq] at h
  obtain rfl := h
  exact wx_pf tt_ok (.inl rfl) Tryd.results10 (Res.tmp rfl Res.nil) rfl

theorem k_hindcastlaw11_FoldMakes {F : Nat} {p0 : T_api_State} {p0a0 : Option Addr} {p0n0 p0c0 : Nat} {p1 : (List (Int × Int))} {p1a0 : Option Addr} {p1n0 p1c0 : Nat} {r0 : Bool} (p0N0 : p0n0 = p0.Shots.length) (p0H0 : p0n0 ≤ p0c0) (p1N0 : p1n0 = p1.length) (p1H0 : p1n0 ≤ p1c0) (h : m_hindcastlaw11_FoldMakes F p0 p1 = some r0) :
    Pf Tryd.prog 3 [.agg #[.int .u64 p0.Frame, .int .u64 p0.Seed, .int .i32 p0.Players.1.X, .int .i32 p0.Players.1.Y, .int .i32 p0.Players.1.VX, .int .i32 p0.Players.1.VY, .int .u8 p0.Players.1.Health, .int .u8 p0.Players.1.Cool, .int .u8 p0.Players.1.Face, .int .i32 p0.Players.2.X, .int .i32 p0.Players.2.Y, .int .i32 p0.Players.2.VX, .int .i32 p0.Players.2.VY, .int .u8 p0.Players.2.Health, .int .u8 p0.Players.2.Cool, .int .u8 p0.Players.2.Face, .slice p0a0 p0n0 p0c0, .int .u16 p0.Score.1, .int .u16 p0.Score.2], .slice p1a0 p1n0 p1c0] (fun w => Rds w [] [] p0a0 (flat c_T_api_Shot p0.Shots) ∧ Rds w [] [] p1a0 (flat (e2 .u8) p1) ∧ Rds w [] [] (some ⟨0, 0, none⟩) (flat (fun _ : Unit => gl_state_playerBounds) [()]) ∧ Rds w [] [] (some ⟨1, 0, none⟩) (flat (fun _ : Unit => gl_state_shotBounds) [()])) (.bool r0) := by
  unfold m_hindcastlaw11_FoldMakes at h
  refine pf_of_wc Tryd.func3 rfl Tryd.ntmps3 rfl rfl (fun w0 hR => ?_)
  obtain ⟨p0S0, p1S0, G0S, G1S⟩ := hR
  refine wc_seq ?_
  refine wc_region ?_
  refine wl_box rfl rfl rfl (fun b2 => ?_)
  refine wl_pure tt_ok rfl rfl ?_
  refine wl_nil ?_
  refine wx_then ?_
  refine wc_seq ?_
  refine wc_seq ?_
  refine wc_region ?_
  refine wl_pure (v := .pointer (some ⟨b2, 16, none⟩)) tt_ok rfl rfl ?_
  refine wl_val (v := .slice p0a0 p0n0 p0c0) (val_load tt_ok rfl (List.Mem.head _) rfl) rfl ?_
  refine wl_val (v := .int .i64 (p0.Shots.length : Int)) (val_len tt_ok rfl rfl p0N0) rfl ?_
  refine wl_pure (v := .bool (decide ((100 : Int) < (p0.Shots.length : Int)))) tt_ok rfl rfl ?_
  refine wl_pure tt_ok rfl rfl ?_
  replace h := bsome h; obtain ⟨v14, h, hg14⟩ := h
  refine wl_split (t := 10) rfl (fun hc => ?_) (fun hc => ?_)
  · replace h := ct hc h
    refine wl_skip rfl rfl ?_
    refine wl_skip rfl rfl ?_
    refine wl_skip rfl rfl ?_
    simp only [Option.some.injEq, Prod.mk.injEq] at h
    obtain rfl := h
    have h := hg14; clear hg14
    refine wl_pure (v := .bool true) tt_ok rfl rfl ?_
    refine wl_nil ?_
    refine wx_then ?_
    replace h := ct rfl h
    refine wc_cond_true rfl ?_
    refine wc_seq ?_
    refine wc_region ?_
    replace h := bsome h; obtain ⟨v15, x15, h⟩ := h
    refine wl_cq Tryd.call8 rfl rfl rfl (q_pf (k_hindcastlaw11_awake x15) (fun w hI => ⟨(Rds.call G0S pNil rsub_nil) w hI, (Rds.call G1S pNil rsub_nil) w hI⟩)) rfl ?_
    refine wl_pure tt_ok rfl rfl ?_
    refine wl_nil ?_
    refine wx_then ?_
    refine wc_ret ?_
    refine wx_then_ret ?_
    simp only [Option.some.injEq] at h
    obtain rfl := h
    exact wx_pf tt_ok (.inl rfl) Tryd.results3 (Res.tmp rfl Res.nil) rfl
  replace h := cf hc h
  refine wl_run rfl ?_
  refine wl_pure tt_ok rfl rfl ?_
  refine wl_run rfl ?_
  refine wl_val (v := .int .i64 (p1.length : Int)) (val_len tt_ok rfl rfl p1N0) rfl ?_
  refine wl_run rfl ?_
  refine wl_pure (v := .bool (decide ((200 : Int) < (p1.length : Int)))) tt_ok rfl rfl ?_
  simp only [Option.some.injEq, Prod.mk.injEq] at h
  obtain rfl := h
  have h := hg14; clear hg14
  refine wl_pure (v := .bool (decide ((200 : Int) < (p1.length : Int)))) tt_ok rfl rfl ?_
  refine wl_nil ?_
  refine wx_then ?_
  refine wc_cond rfl (fun hc => ?_) (fun hc => ?_)
  · replace h := ct hc h
    refine wc_seq ?_
    refine wc_region ?_
    replace h := bsome h; obtain ⟨v15, x15, h⟩ := h
    refine wl_cq Tryd.call8 rfl rfl rfl (q_pf (k_hindcastlaw11_awake x15) (fun w hI => ⟨(Rds.call G0S pNil rsub_nil) w hI, (Rds.call G1S pNil rsub_nil) w hI⟩)) rfl ?_
    refine wl_pure tt_ok rfl rfl ?_
    refine wl_nil ?_
    refine wx_then ?_
    refine wc_ret ?_
    refine wx_then_ret ?_
    simp only [Option.some.injEq] at h
    obtain rfl := h
    exact wx_pf tt_ok (.inl rfl) Tryd.results3 (Res.tmp rfl Res.nil) rfl
  replace h := cf hc h
  refine wc_skip ?_
  refine wx_then ?_
  refine wc_seq ?_
  refine wc_region ?_
  refine wl_val (v := .agg #[.int .u64 p0.Frame, .int .u64 p0.Seed, .int .i32 p0.Players.1.X, .int .i32 p0.Players.1.Y, .int .i32 p0.Players.1.VX, .int .i32 p0.Players.1.VY, .int .u8 p0.Players.1.Health, .int .u8 p0.Players.1.Cool, .int .u8 p0.Players.1.Face, .int .i32 p0.Players.2.X, .int .i32 p0.Players.2.Y, .int .i32 p0.Players.2.VX, .int .i32 p0.Players.2.VY, .int .u8 p0.Players.2.Health, .int .u8 p0.Players.2.Cool, .int .u8 p0.Players.2.Face, .slice p0a0 p0n0 p0c0, .int .u16 p0.Score.1, .int .u16 p0.Score.2]) (val_load tt_ok rfl (List.Mem.head _) rfl) rfl ?_
  replace h := bsome h; obtain ⟨v17, x17, h⟩ := h
  refine wl_cs Tryd.call9 rfl rfl rfl (s_sp (k_hindcastref08_Copy (p0 := p0) p0N0 p0H0 x17) pNil (Rds.call p0S0 pNil rsub_nil)) rfl ?_
  rintro _ _ ⟨_, ⟨v17a0, v17n0, v17c0, v17B0, v17N0, v17V0, rfl, rfl⟩, rfl⟩
  refine wl_alloc tt_ok rfl rfl (fun b5 => ?_)
  apply wl_store tt_ok; rfl; exact Upd.here; rfl; rfl; rfl; rfl; rfl; rfl
  refine wl_nil ?_
  refine wx_then ?_
  refine wc_seq ?_
  refine wc_k2 (Ls := (⟨b5, [.int .u64 v17.Frame, .int .u64 v17.Seed, .int .i32 v17.Players.1.X, .int .i32 v17.Players.1.Y, .int .i32 v17.Players.1.VX, .int .i32 v17.Players.1.VY, .int .u8 v17.Players.1.Health, .int .u8 v17.Players.1.Cool, .int .u8 v17.Players.1.Face, .int .i32 v17.Players.2.X, .int .i32 v17.Players.2.Y, .int .i32 v17.Players.2.VX, .int .i32 v17.Players.2.VY, .int .u8 v17.Players.2.Health, .int .u8 v17.Players.2.Cool, .int .u8 v17.Players.2.Face, .slice v17a0 v17n0 v17c0, .int .u16 v17.Score.1, .int .u16 v17.Score.2], 30, (0, 0)⟩ :: (v17B0 ++ (⟨b2, [.int .u64 p0.Frame, .int .u64 p0.Seed, .int .i32 p0.Players.1.X, .int .i32 p0.Players.1.Y, .int .i32 p0.Players.1.VX, .int .i32 p0.Players.1.VY, .int .u8 p0.Players.1.Health, .int .u8 p0.Players.1.Cool, .int .u8 p0.Players.1.Face, .int .i32 p0.Players.2.X, .int .i32 p0.Players.2.Y, .int .i32 p0.Players.2.VX, .int .i32 p0.Players.2.VY, .int .u8 p0.Players.2.Health, .int .u8 p0.Players.2.Cool, .int .u8 p0.Players.2.Face, .slice p0a0 p0n0 p0c0, .int .u16 p0.Score.1, .int .u16 p0.Score.2], 30, (0, 0)⟩ :: [])))) [2, 5, 6, 10, 13] [] [0, 0, 3, 0, 0, 31, 63, 127, 255, 255, 1023, 2047, 4095, 8191, 16383, 32767] [0, 1, 3, 4, 2, 5, 6, 7, 8, 9, 10, 11, 12, 13, 14, 15] (by kernel_rfl) (by kernel_rfl) (by kernel_rfl) ?_
  refine k_val (v := .agg #[.int .u64 v17.Frame, .int .u64 v17.Seed, .int .i32 v17.Players.1.X, .int .i32 v17.Players.1.Y, .int .i32 v17.Players.1.VX, .int .i32 v17.Players.1.VY, .int .u8 v17.Players.1.Health, .int .u8 v17.Players.1.Cool, .int .u8 v17.Players.1.Face, .int .i32 v17.Players.2.X, .int .i32 v17.Players.2.Y, .int .i32 v17.Players.2.VX, .int .i32 v17.Players.2.VY, .int .u8 v17.Players.2.Health, .int .u8 v17.Players.2.Cool, .int .u8 v17.Players.2.Face, .slice v17a0 v17n0 v17c0, .int .u16 v17.Score.1, .int .u16 v17.Score.2]) rfl rfl rfl (pSub (pCons Sel.hc (pApp Sel.ha (pCons Sel.hc pNil)))) (val_load tt_ok rfl (List.Mem.head _) rfl) rfl ?_
  refine k_val rfl rfl rfl (pSub (pCons Sel.hc (pApp Sel.ha (pCons Sel.hc pNil)))) (stepV_ok tt_ok rfl) rfl ?_
  refine k_val (v := .agg #[.int .u64 p0.Frame, .int .u64 p0.Seed, .int .i32 p0.Players.1.X, .int .i32 p0.Players.1.Y, .int .i32 p0.Players.1.VX, .int .i32 p0.Players.1.VY, .int .u8 p0.Players.1.Health, .int .u8 p0.Players.1.Cool, .int .u8 p0.Players.1.Face, .int .i32 p0.Players.2.X, .int .i32 p0.Players.2.Y, .int .i32 p0.Players.2.VX, .int .i32 p0.Players.2.VY, .int .u8 p0.Players.2.Health, .int .u8 p0.Players.2.Cool, .int .u8 p0.Players.2.Face, .slice p0a0 p0n0 p0c0, .int .u16 p0.Score.1, .int .u16 p0.Score.2]) rfl rfl rfl (pSub (pCons Sel.hc (pApp Sel.ha (pCons Sel.hc pNil)))) (val_load tt_ok rfl (List.Mem.tail _ (mR (List.Mem.head _))) rfl) rfl ?_
  refine k_val rfl rfl rfl (pSub (pCons Sel.hc (pApp Sel.ha (pCons Sel.hc pNil)))) (stepV_ok tt_ok rfl) rfl ?_
  replace h := bsome h; obtain ⟨v20, x20, h⟩ := h
  refine k_cs rfl rfl rfl Tryd.call11 rfl rfl rfl (s_sp (k_fold_Fold (p0 := v17) (p1 := p1) v17N0 (vec_cap v17V0) p1N0 p1H0 x20) pNil (fun w hI => ⟨(Rds.call (Rds.of_vec v17V0) pNil ⟨_, (Sel.sc Sel.ha)⟩) w hI, (Rds.call p1S0 pNil rsub_nil) w hI, (Rds.call G0S pNil rsub_nil) w hI, (Rds.call G1S pNil rsub_nil) w hI⟩)) rfl (.inr (by rintro _ _ ⟨_, ⟨_, _, _, _, _, _, rfl, rfl⟩, rfl⟩; exact ⟨_, (pCons (Sel.sa Sel.hc) (pApp (Sel.sa Sel.ha) (pCons (Sel.sa Sel.hc) pNil)))⟩)) ?_
  rintro _ _ ⟨_, ⟨v20a0, v20n0, v20c0, v20B0, v20N0, v20V0, rfl, rfl⟩, rfl⟩
  replace h := bsome h; obtain ⟨v23, x23, h⟩ := h
  refine k_cs rfl rfl rfl Tryd.call12 rfl rfl rfl (s_sp (k_hindcastref11_Fold (p0 := p0) (p1 := p1) p0N0 p0H0 p1N0 p1H0 x23) pNil (fun w hI => ⟨(Rds.call p0S0 pNil rsub_nil) w hI, (Rds.call p1S0 pNil rsub_nil) w hI⟩)) rfl (.inr (by rintro _ _ ⟨_, ⟨_, _, _, _, _, _, rfl, rfl⟩, rfl⟩; exact ⟨_, (pCons (Sel.sa (Sel.sa Sel.hc)) (pApp (Sel.sa (Sel.sa Sel.ha)) (pCons (Sel.sa (Sel.sa Sel.hc)) pNil)))⟩)) ?_
  rintro _ _ ⟨_, ⟨v23a0, v23n0, v23c0, v23B0, v23N0, v23V0, rfl, rfl⟩, rfl⟩
  replace h := bsome h; obtain ⟨v24, x24, h⟩ := h
  refine k_cq rfl rfl rfl Tryd.call10 rfl rfl rfl (q_pf (k_hindcastref08_Same (p0 := v20) (p1 := v23) v20N0 (vec_cap v20V0) v23N0 (vec_cap v23V0) x24) (fun w hI => ⟨(Rds.call (Rds.of_vec v20V0) pNil ⟨_, (Sel.sa Sel.ha)⟩) w hI, (Rds.call (Rds.of_vec v23V0) pNil ⟨_, Sel.ha⟩) w hI⟩)) rfl (pSub (pCons (Sel.sa (Sel.sa Sel.hc)) (pApp (Sel.sa (Sel.sa Sel.ha)) (pCons (Sel.sa (Sel.sa Sel.hc)) pNil)))) ?_
  refine k_val rfl rfl rfl (pSub (pCons (Sel.sa (Sel.sa Sel.hc)) (pApp (Sel.sa (Sel.sa Sel.ha)) (pCons (Sel.sa (Sel.sa Sel.hc)) pNil)))) (stepV_ok tt_ok rfl) rfl ?_
  replace h := bsome h; obtain ⟨v29, h, hg29⟩ := h
  refine k_split (t := 25) rfl (fun hc => ?_) (fun hc => ?_)
  · replace h := ct hc h
    refine k_val (v := .agg #[.int .u64 v17.Frame, .int .u64 v17.Seed, .int .i32 v17.Players.1.X, .int .i32 v17.Players.1.Y, .int .i32 v17.Players.1.VX, .int .i32 v17.Players.1.VY, .int .u8 v17.Players.1.Health, .int .u8 v17.Players.1.Cool, .int .u8 v17.Players.1.Face, .int .i32 v17.Players.2.X, .int .i32 v17.Players.2.Y, .int .i32 v17.Players.2.VX, .int .i32 v17.Players.2.VY, .int .u8 v17.Players.2.Health, .int .u8 v17.Players.2.Cool, .int .u8 v17.Players.2.Face, .slice v17a0 v17n0 v17c0, .int .u16 v17.Score.1, .int .u16 v17.Score.2]) rfl rfl rfl (pSub (pCons (Sel.sa (Sel.sa Sel.hc)) (pApp (Sel.sa (Sel.sa Sel.ha)) (pCons (Sel.sa (Sel.sa Sel.hc)) pNil)))) (val_load tt_ok rfl (List.Mem.head _) rfl) rfl ?_
    refine k_val (v := .agg #[.int .u64 p0.Frame, .int .u64 p0.Seed, .int .i32 p0.Players.1.X, .int .i32 p0.Players.1.Y, .int .i32 p0.Players.1.VX, .int .i32 p0.Players.1.VY, .int .u8 p0.Players.1.Health, .int .u8 p0.Players.1.Cool, .int .u8 p0.Players.1.Face, .int .i32 p0.Players.2.X, .int .i32 p0.Players.2.Y, .int .i32 p0.Players.2.VX, .int .i32 p0.Players.2.VY, .int .u8 p0.Players.2.Health, .int .u8 p0.Players.2.Cool, .int .u8 p0.Players.2.Face, .slice p0a0 p0n0 p0c0, .int .u16 p0.Score.1, .int .u16 p0.Score.2]) rfl rfl rfl (pSub (pCons (Sel.sa (Sel.sa Sel.hc)) (pApp (Sel.sa (Sel.sa Sel.ha)) (pCons (Sel.sa (Sel.sa Sel.hc)) pNil)))) (val_load tt_ok rfl (List.Mem.tail _ (mR (List.Mem.head _))) rfl) rfl ?_
    replace h := bsome h; obtain ⟨v28, x28, h⟩ := h
    refine k_cq rfl rfl rfl Tryd.call10 rfl rfl rfl (q_pf (k_hindcastref08_Same (p0 := v17) (p1 := p0) v17N0 (vec_cap v17V0) p0N0 p0H0 x28) (fun w hI => ⟨(Rds.call (Rds.of_vec v17V0) pNil ⟨_, (Sel.sa (Sel.sa (Sel.sc Sel.ha)))⟩) w hI, (Rds.call p0S0 pNil rsub_nil) w hI⟩)) rfl (pSub (pCons (Sel.sa (Sel.sa Sel.hc)) (pApp (Sel.sa (Sel.sa Sel.ha)) (pCons (Sel.sa (Sel.sa Sel.hc)) pNil)))) ?_
    simp only [Option.some.injEq, Prod.mk.injEq] at h
    obtain rfl := h
    have h := hg29; clear hg29
    refine k_val (v := .bool v28) rfl rfl rfl (pSub (pCons (Sel.sa (Sel.sa Sel.hc)) (pApp (Sel.sa (Sel.sa Sel.ha)) (pCons (Sel.sa (Sel.sa Sel.hc)) pNil)))) (stepV_ok tt_ok rfl) rfl ?_
    refine k_val rfl rfl rfl (pSub (pCons (Sel.sa (Sel.sa Sel.hc)) (pApp (Sel.sa (Sel.sa Sel.ha)) (pCons (Sel.sa (Sel.sa Sel.hc)) pNil)))) (stepV_ok tt_ok rfl) rfl ?_
    replace h := bsome h; obtain ⟨v32, h, hg32⟩ := h
    refine k_split (t := 30) rfl (fun hc => ?_) (fun hc => ?_)
    · replace h := ct hc h
      replace h := bsome h; obtain ⟨v31, x31, h⟩ := h
      refine k_cq rfl rfl rfl Tryd.call8 rfl rfl rfl (q_pf (k_hindcastlaw11_awake x31) (fun w hI => ⟨(Rds.call G0S pNil rsub_nil) w hI, (Rds.call G1S pNil rsub_nil) w hI⟩)) rfl (pSub (pCons (Sel.sa (Sel.sa Sel.hc)) (pApp (Sel.sa (Sel.sa Sel.ha)) (pCons (Sel.sa (Sel.sa Sel.hc)) pNil)))) ?_
      simp only [Option.some.injEq, Prod.mk.injEq] at h
      obtain rfl := h
      have h := hg32; clear hg32
      refine k_val (v := .bool v31) rfl rfl rfl (pSub (pCons (Sel.sa (Sel.sa Sel.hc)) (pApp (Sel.sa (Sel.sa Sel.ha)) (pCons (Sel.sa (Sel.sa Sel.hc)) pNil)))) (stepV_ok tt_ok rfl) rfl ?_
      refine k_val rfl rfl rfl (pSub (pCons (Sel.sa (Sel.sa Sel.hc)) (pApp (Sel.sa (Sel.sa Sel.ha)) (pCons (Sel.sa (Sel.sa Sel.hc)) pNil)))) (stepV_ok tt_ok rfl) rfl ?_
      refine k_end (by kernel_rfl) ?_
      refine wx_then ?_
      refine wc_ret ?_
      simp only [Option.some.injEq] at h
      obtain rfl := h
      exact wx_pf tt_ok (.inl rfl) Tryd.results3 (Res.tmp rfl Res.nil) rfl
    replace h := cf hc h
    refine k_skip rfl rfl (pSub (pCons (Sel.sa (Sel.sa Sel.hc)) (pApp (Sel.sa (Sel.sa Sel.ha)) (pCons (Sel.sa (Sel.sa Sel.hc)) pNil)))) rfl ?_
    simp only [Option.some.injEq, Prod.mk.injEq] at h
    obtain rfl := h
    have h := hg32; clear hg32
    refine k_val (v := .bool false) rfl rfl rfl (pSub (pCons (Sel.sa (Sel.sa Sel.hc)) (pApp (Sel.sa (Sel.sa Sel.ha)) (pCons (Sel.sa (Sel.sa Sel.hc)) pNil)))) (stepV_ok tt_ok rfl) rfl ?_
    refine k_val rfl rfl rfl (pSub (pCons (Sel.sa (Sel.sa Sel.hc)) (pApp (Sel.sa (Sel.sa Sel.ha)) (pCons (Sel.sa (Sel.sa Sel.hc)) pNil)))) (stepV_ok tt_ok rfl) rfl ?_
    refine k_end (by kernel_rfl) ?_
    refine wx_then ?_
    refine wc_ret ?_
    simp only [Option.some.injEq] at h
    obtain rfl := h
    exact wx_pf tt_ok (.inl rfl) Tryd.results3 (Res.tmp rfl Res.nil) rfl
  replace h := cf hc h
  refine k_skip rfl rfl (pSub (pCons (Sel.sa (Sel.sa Sel.hc)) (pApp (Sel.sa (Sel.sa Sel.ha)) (pCons (Sel.sa (Sel.sa Sel.hc)) pNil)))) rfl ?_
  refine k_skip rfl rfl (pSub (pCons (Sel.sa (Sel.sa Sel.hc)) (pApp (Sel.sa (Sel.sa Sel.ha)) (pCons (Sel.sa (Sel.sa Sel.hc)) pNil)))) rfl ?_
  refine k_skip rfl rfl (pSub (pCons (Sel.sa (Sel.sa Sel.hc)) (pApp (Sel.sa (Sel.sa Sel.ha)) (pCons (Sel.sa (Sel.sa Sel.hc)) pNil)))) rfl ?_
  simp only [Option.some.injEq, Prod.mk.injEq] at h
  obtain rfl := h
  have h := hg29; clear hg29
  refine k_val (v := .bool false) rfl rfl rfl (pSub (pCons (Sel.sa (Sel.sa Sel.hc)) (pApp (Sel.sa (Sel.sa Sel.ha)) (pCons (Sel.sa (Sel.sa Sel.hc)) pNil)))) (stepV_ok tt_ok rfl) rfl ?_
  refine k_val rfl rfl rfl (pSub (pCons (Sel.sa (Sel.sa Sel.hc)) (pApp (Sel.sa (Sel.sa Sel.ha)) (pCons (Sel.sa (Sel.sa Sel.hc)) pNil)))) (stepV_ok tt_ok rfl) rfl ?_
  replace h := bsome h; obtain ⟨v32, h, hg32⟩ := h
  replace h := cf rfl h
  refine k_skip rfl rfl (pSub (pCons (Sel.sa (Sel.sa Sel.hc)) (pApp (Sel.sa (Sel.sa Sel.ha)) (pCons (Sel.sa (Sel.sa Sel.hc)) pNil)))) rfl ?_
  simp only [Option.some.injEq, Prod.mk.injEq] at h
  obtain rfl := h
  have h := hg32; clear hg32
  refine k_val (v := .bool false) rfl rfl rfl (pSub (pCons (Sel.sa (Sel.sa Sel.hc)) (pApp (Sel.sa (Sel.sa Sel.ha)) (pCons (Sel.sa (Sel.sa Sel.hc)) pNil)))) (stepV_ok tt_ok rfl) rfl ?_
  refine k_val rfl rfl rfl (pSub (pCons (Sel.sa (Sel.sa Sel.hc)) (pApp (Sel.sa (Sel.sa Sel.ha)) (pCons (Sel.sa (Sel.sa Sel.hc)) pNil)))) (stepV_ok tt_ok rfl) rfl ?_
  refine k_end (by kernel_rfl) ?_
  refine wx_then ?_
  refine wc_ret ?_
  simp only [Option.some.injEq] at h
  obtain rfl := h
  exact wx_pf tt_ok (.inl rfl) Tryd.results3 (Res.tmp rfl Res.nil) rfl

end Go.Proofs.YtfkkpnfbpolppaaDoor
