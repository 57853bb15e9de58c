/-
  Each function computes what its model says. Printed by a program of this claim's own.
-/
import Derived.Test.YtekplmhmppdpcaaDoorTab
import Derived.Test.YtekplmhmppdpcaaDoorMod
import Derived.Test.YtekplmhmppdpcaaDoorWalk1
namespace Go.Proofs.YtekplmhmppdpcaaDoor
open Go.Proofs.YtekplmhmppdpcaaDoor.Eng
set_option linter.unusedVariables false
set_option linter.unusedSimpArgs false
set_option maxHeartbeats 4000000
set_option maxRecDepth 20000

theorem k_state_Take {F : Nat} {p0 : (List UInt8)} {r0 : T_api_State} {r1 : Int} (h : m_state_Take F p0 = some (r0, r1)) :
    SpD Tryd.prog 18 [.string ⟨p0.toArray⟩] [] (fun w => Rds w (ids []) [] (some ⟨0, 0, none⟩) (flat (fun _ : Unit => gl_state_playerBounds) [()]) ∧ Rds w (ids []) [] (some ⟨1, 0, none⟩) (flat (fun _ : Unit => gl_state_shotBounds) [()])) (fun v D => ∃ (r0a0 : Option Addr) (r0n0 r0c0 : Nat) (r0B0 : List Blk), r0n0 = r0.Shots.length ∧ Own 50 6 r0a0 r0n0 r0c0 (flat c_T_api_Shot r0.Shots) r0B0 ∧ v = .tuple #[.agg #[.int .u64 r0.Frame, .int .u64 r0.Seed, .int .i32 r0.Players.1.X, .int .i32 r0.Players.1.Y, .int .i32 r0.Players.1.VX, .int .i32 r0.Players.1.VY, .int .u8 r0.Players.1.Health, .int .u8 r0.Players.1.Cool, .int .u8 r0.Players.1.Face, .int .i32 r0.Players.2.X, .int .i32 r0.Players.2.Y, .int .i32 r0.Players.2.VX, .int .i32 r0.Players.2.VY, .int .u8 r0.Players.2.Health, .int .u8 r0.Players.2.Cool, .int .u8 r0.Players.2.Face, .slice r0a0 r0n0 r0c0, .int .u16 r0.Score.1, .int .u16 r0.Score.2], .int .i64 r1] ∧ D = fun F => (r0B0 ++ F)) := by
  unfold m_state_Take at h
  refine sp_of_wc Tryd.func18 rfl Tryd.ntmps18 rfl rfl (fun w0 hR => ?_)
  obtain ⟨G0S, G1S⟩ := hR
  refine wc_seq ?_
  refine wc_region ?_
  refine wl_alloc tt_ok rfl rfl (fun b2 => ?_)
  refine wl_pure tt_ok rfl rfl ?_
  refine wl_nil ?_
  refine wx_then ?_
  refine wc_seq ?_
  refine wc_region ?_
  refine wl_pure tt_ok rfl rfl ?_
  replace h := bsome h; obtain ⟨v10, x10, h⟩ := h
  refine wl_cs Tryd.call40 rfl rfl rfl (s_sp (k_codec_New x10) pNil (fun _ _ => trivial)) rfl ?_
  rintro _ _ ⟨_, ⟨b10_0, rfl, rfl⟩, rfl⟩
  refine wl_pure tt_ok rfl rfl ?_
  refine wl_nil ?_
  refine wx_then ?_
  refine wc_seq ?_
  refine wc_region ?_
  refine wl_pure tt_ok rfl rfl ?_
  replace h := bsome h; obtain ⟨⟨o12_0, v12⟩, x12, h⟩ := h; try dsimp only at h
  refine wl_cs Tryd.call41 rfl rfl rfl (s_sp (k_codec_Reader_U64 x12) (pCons Sel.hc pNil) (fun _ _ => trivial)) rfl ?_
  rintro _ _ ⟨_, ⟨rfl, rfl⟩, rfl⟩
  refine wl_pure tt_ok rfl rfl ?_
  replace h := bsome h; obtain ⟨⟨o14_0, v14⟩, x14, h⟩ := h; try dsimp only at h
  refine wl_cs Tryd.call41 rfl rfl rfl (s_sp (k_codec_Reader_U64 x14) (pCons Sel.hc pNil) (fun _ _ => trivial)) rfl ?_
  rintro _ _ ⟨_, ⟨rfl, rfl⟩, rfl⟩
  refine wl_pure (v := .agg #[.int .u64 v12, .int .u64 v14, .int .i32 (0 : Int), .int .i32 (0 : Int), .int .i32 (0 : Int), .int .i32 (0 : Int), .int .u8 (0 : Int), .int .u8 (0 : Int), .int .u8 (0 : Int), .int .i32 (0 : Int), .int .i32 (0 : Int), .int .i32 (0 : Int), .int .i32 (0 : Int), .int .u8 (0 : Int), .int .u8 (0 : Int), .int .u8 (0 : Int), .slice none 0 0, .int .u16 (0 : Int), .int .u16 (0 : Int)]) tt_ok rfl rfl ?_
  refine wl_alloc tt_ok rfl rfl (fun b5 => ?_)
  apply wl_store tt_ok; rfl; exact Upd.here; rfl; rfl; rfl; rfl; rfl; rfl
  refine wl_nil ?_
  refine wx_then ?_
  refine wc_seq ?_
  refine wc_seq ?_
  refine wc_region ?_
  refine wl_pure tt_ok rfl rfl ?_
  refine wl_nil ?_
  refine wx_then ?_
  refine wc_block ?_
  replace h := bsome h; obtain ⟨⟨l11_n10_0, l11_n5_f2⟩, h, hl11⟩ := h; try dsimp only at hl11
  refine wc_loop (fun m E L => ∃ (j11_16 : Int) (j11_n10_0 : T_codec_Reader) (j11_n5_f2 : (T_api_Player × T_api_Player)), m_state_Take_L10 F m j11_16 j11_n10_0 j11_n5_f2 = some (l11_n10_0, l11_n5_f2) ∧ E = [(2, .pointer (some ⟨b2, 0, none⟩)), (3, .int .i64 (0 : Int)), (4, .pointer (some ⟨b10_0, 0, none⟩)), (5, .pointer (some ⟨b5, 0, none⟩)), (16, .int .i64 j11_16)] ∧ L = (⟨b2, [.int .u64 (0 : Int), .int .u64 (0 : Int), .int .i32 (0 : Int), .int .i32 (0 : Int), .int .i32 (0 : Int), .int .i32 (0 : Int), .int .u8 (0 : Int), .int .u8 (0 : Int), .int .u8 (0 : Int), .int .i32 (0 : Int), .int .i32 (0 : Int), .int .i32 (0 : Int), .int .i32 (0 : Int), .int .u8 (0 : Int), .int .u8 (0 : Int), .int .u8 (0 : Int), .slice none 0 0, .int .u16 (0 : Int), .int .u16 (0 : Int)], 30, (0, 0)⟩ :: (⟨b10_0, [.string ⟨j11_n10_0.left.s.toArray⟩, .int .i64 j11_n10_0.left.e], 101, (0, 0)⟩ :: (⟨b5, [.int .u64 v12, .int .u64 v14, .int .i32 j11_n5_f2.1.X, .int .i32 j11_n5_f2.1.Y, .int .i32 j11_n5_f2.1.VX, .int .i32 j11_n5_f2.1.VY, .int .u8 j11_n5_f2.1.Health, .int .u8 j11_n5_f2.1.Cool, .int .u8 j11_n5_f2.1.Face, .int .i32 j11_n5_f2.2.X, .int .i32 j11_n5_f2.2.Y, .int .i32 j11_n5_f2.2.VX, .int .i32 j11_n5_f2.2.VY, .int .u8 j11_n5_f2.2.Health, .int .u8 j11_n5_f2.2.Cool, .int .u8 j11_n5_f2.2.Face, .slice none 0 0, .int .u16 (0 : Int), .int .u16 (0 : Int)], 30, (0, 0)⟩ :: [])))) F ⟨(0 : Int), o14_0, ((T_api_Player.mk (0 : Int) (0 : Int) (0 : Int) (0 : Int) (0 : Int) (0 : Int) (0 : Int)), (T_api_Player.mk (0 : Int) (0 : Int) (0 : Int) (0 : Int) (0 : Int) (0 : Int) (0 : Int))), h, rfl, rfl⟩ (agree_cons rfl (agree_cons rfl (agree_cons rfl (agree_cons rfl (agree_cons rfl agree_nil))))) (pSub (pCons (Sel.sc (Sel.sc Sel.hc)) (pCons (Sel.sc Sel.hc) (pCons Sel.hc pNil)))) ?_
  clear h
  rintro m11 _ _ ⟨j11_16, j11_n10_0, j11_n5_f2, h, rfl, rfl⟩
  rcases m11 with _ | m11
  · rw [m_state_Take_L10.eq_1] at h; cases h
  rw [m_state_Take_L10.eq_2] at h
  refine wc_seq ?_
  refine wc_region ?_
  refine wl_pure (v := .bool (decide (j11_16 < (2 : Int)))) tt_ok rfl rfl ?_
  refine wl_nil ?_
  refine wx_then ?_
  refine wc_seq ?_
  refine wc_cond rfl (fun hc => ?_) (fun hc => ?_)
  · replace h := ct hc h
    refine wc_skip ?_
    refine wx_then ?_
    refine wc_seq ?_
    refine wc_block ?_
    refine wc_seq ?_
    refine wc_region ?_
    refine wl_pure tt_ok rfl rfl ?_
    refine wl_pure tt_ok rfl rfl ?_
    refine wl_nil ?_
    refine wx_then ?_
    refine wc_region ?_
    refine wl_pure tt_ok rfl rfl ?_
    refine wl_pure tt_ok rfl rfl ?_
    replace h := bsome h; obtain ⟨⟨o21_0, v21⟩, x21, h⟩ := h; try dsimp only at h
    refine wl_cs Tryd.call42 rfl rfl rfl (s_sp (k_state_take_api_Player_f2_state_player x21) (pCons (Sel.sc Sel.hc) pNil) (fun _ _ => trivial)) rfl ?_
    rintro _ _ ⟨_, ⟨rfl, rfl⟩, rfl⟩
    refine wl_pure (v := .pointer (some ⟨b5, 2, none⟩)) tt_ok rfl rfl ?_
    rcases Bool.eq_false_or_eq_true (j11_16 == (0 : Int)) with hx230 | hx230
    · replace h := ct hx230 h
      refine wl_val (v := .pointer (some ⟨b5, 2, none⟩)) (val_ia (j := 0) tt_ok rfl rfl rfl rfl (by simpa using hx230) rfl rfl) rfl ?_
      apply wl_store tt_ok; rfl; exact (Upd.there (Upd.there Upd.here)); rfl; rfl; rfl; rfl; rfl; rfl
      refine wl_nil ?_
      refine wx_block ?_
      refine wx_then ?_
      refine wc_region ?_
      refine wl_pure (v := .int .i64 (IntKind.wrap .i64 (j11_16 + (1 : Int)))) tt_ok rfl rfl ?_
      refine wl_pure tt_ok rfl rfl ?_
      refine wl_nil ?_
      exact wx_round m11 (Nat.lt_succ_self m11) ⟨(IntKind.wrap .i64 (j11_16 + (1 : Int))), o21_0, (v21, j11_n5_f2.2), h, rfl, rfl⟩ (agree_cons rfl (agree_cons rfl (agree_cons rfl (agree_cons rfl (agree_cons rfl agree_nil))))) (pSub (pCons (Sel.sc Sel.hc) (pCons Sel.hc (pCons Sel.hc pNil))))
    replace h := cf hx230 h
    rcases Bool.eq_false_or_eq_true (j11_16 == (1 : Int)) with hx231 | hx231
    · replace h := ct hx231 h
      refine wl_val (v := .pointer (some ⟨b5, 9, none⟩)) (val_ia (j := 1) tt_ok rfl rfl rfl rfl (by simpa using hx231) rfl rfl) rfl ?_
      apply wl_store tt_ok; rfl; exact (Upd.there (Upd.there Upd.here)); rfl; rfl; rfl; rfl; rfl; rfl
      refine wl_nil ?_
      refine wx_block ?_
      refine wx_then ?_
      refine wc_region ?_
      refine wl_pure (v := .int .i64 (IntKind.wrap .i64 (j11_16 + (1 : Int)))) tt_ok rfl rfl ?_
      refine wl_pure tt_ok rfl rfl ?_
      refine wl_nil ?_
      exact wx_round m11 (Nat.lt_succ_self m11) ⟨(IntKind.wrap .i64 (j11_16 + (1 : Int))), o21_0, (j11_n5_f2.1, v21), h, rfl, rfl⟩ (agree_cons rfl (agree_cons rfl (agree_cons rfl (agree_cons rfl (agree_cons rfl agree_nil))))) (pSub (pCons (Sel.sc Sel.hc) (pCons Sel.hc (pCons Sel.hc pNil))))
    replace h := cf hx231 h
    cases h
  replace h := cf hc h
  refine wc_exit ?_
  refine wx_then_exit ?_
  simp only [Option.some.injEq, Prod.mk.injEq] at h
  obtain ⟨rfl, rfl⟩ := h
  have h := hl11; clear hl11; try dsimp only [orE_l, orE_r] at h
  refine wx_then_exit ?_
  refine wx_block_exit ?_
  refine wx_then ?_
  refine wc_seq ?_
  refine wc_region ?_
  refine wl_pure tt_ok rfl rfl ?_
  replace h := bsome h; obtain ⟨⟨o26_0, v26⟩, x26, h⟩ := h; try dsimp only at h
  refine wl_cs Tryd.call44 rfl rfl rfl (s_sp (k_codec_Reader_Var x26) (pCons (Sel.sc Sel.hc) pNil) (fun _ _ => trivial)) rfl ?_
  rintro _ _ ⟨_, ⟨rfl, rfl⟩, rfl⟩
  refine wl_pure tt_ok rfl rfl ?_
  refine wl_nil ?_
  refine wx_then ?_
  refine wc_seq ?_
  refine wc_seq ?_
  refine wc_region ?_
  refine wl_pure tt_ok rfl rfl ?_
  refine wl_pure (v := .bool (decide ((8 : Int) < v26))) tt_ok rfl rfl ?_
  refine wl_nil ?_
  refine wx_then ?_
  refine wc_cond rfl (fun hc => ?_) (fun hc => ?_)
  · replace h := ct hc h
    refine wc_seq ?_
    refine wc_region ?_
    refine wl_pure (v := .agg #[.int .u64 (0 : Int), .int .u64 (0 : Int), .int .i32 (0 : Int), .int .i32 (0 : Int), .int .i32 (0 : Int), .int .i32 (0 : Int), .int .u8 (0 : Int), .int .u8 (0 : Int), .int .u8 (0 : Int), .int .i32 (0 : Int), .int .i32 (0 : Int), .int .i32 (0 : Int), .int .i32 (0 : Int), .int .u8 (0 : Int), .int .u8 (0 : Int), .int .u8 (0 : Int), .slice none 0 0, .int .u16 (0 : Int), .int .u16 (0 : Int)]) tt_ok rfl rfl ?_
    apply wl_store tt_ok; rfl; exact (Upd.there Upd.here); rfl; rfl; rfl; rfl; rfl; rfl
    refine wl_pure tt_ok rfl rfl ?_
    refine wl_nil ?_
    refine wx_then ?_
    refine wc_ret ?_
    refine wx_then_ret ?_
    simp only [Option.some.injEq, Prod.mk.injEq] at h
    obtain ⟨rfl, rfl⟩ := h
    exact wx_spD tt_ok (.inl rfl) Tryd.results18 (Res.cell rfl (List.Mem.tail _ (List.Mem.head _)) rfl (Res.tmp rfl Res.nil)) ⟨none, 0, 0, [], rfl, Own.zero, rfl, rfl⟩ (fun F => by simp) (pSub (pNo pNil))
  replace h := cf hc h
  refine wc_skip ?_
  refine wx_then ?_
  refine wc_seq ?_
  refine wc_seq ?_
  refine wc_region ?_
  refine wl_pure tt_ok rfl rfl ?_
  refine wl_pure tt_ok rfl rfl ?_
  refine wl_nil ?_
  refine wx_then ?_
  refine wc_block ?_
  replace h := bsome h; obtain ⟨⟨l38_n10_0, l38_n5_f3⟩, h, hl38⟩ := h; try dsimp only at hl38
  refine wc_loop (fun m E L => ∃ (j38_31 : Int) (j38_n10_0 : T_codec_Reader) (j38_n5_f3 : (List T_api_Shot)) (j38_n5_f3a0 : Option Addr) (j38_n5_f3n0 : Nat) (j38_n5_f3c0 : Nat) (j38_n5_f3B0 : List Blk), m_state_Take_L37 F v26 m j38_31 j38_n10_0 j38_n5_f3 = some (l38_n10_0, l38_n5_f3) ∧ j38_n5_f3n0 = j38_n5_f3.length ∧ Own 50 6 j38_n5_f3a0 j38_n5_f3n0 j38_n5_f3c0 (flat c_T_api_Shot j38_n5_f3) j38_n5_f3B0 ∧ E = [(2, .pointer (some ⟨b2, 0, none⟩)), (3, .int .i64 (0 : Int)), (4, .pointer (some ⟨b10_0, 0, none⟩)), (5, .pointer (some ⟨b5, 0, none⟩)), (30, .int .u64 v26), (31, .int .u64 j38_31)] ∧ L = (⟨b2, [.int .u64 (0 : Int), .int .u64 (0 : Int), .int .i32 (0 : Int), .int .i32 (0 : Int), .int .i32 (0 : Int), .int .i32 (0 : Int), .int .u8 (0 : Int), .int .u8 (0 : Int), .int .u8 (0 : Int), .int .i32 (0 : Int), .int .i32 (0 : Int), .int .i32 (0 : Int), .int .i32 (0 : Int), .int .u8 (0 : Int), .int .u8 (0 : Int), .int .u8 (0 : Int), .slice none 0 0, .int .u16 (0 : Int), .int .u16 (0 : Int)], 30, (0, 0)⟩ :: (⟨b10_0, [.string ⟨j38_n10_0.left.s.toArray⟩, .int .i64 j38_n10_0.left.e], 101, (0, 0)⟩ :: (⟨b5, [.int .u64 v12, .int .u64 v14, .int .i32 j11_n5_f2.1.X, .int .i32 j11_n5_f2.1.Y, .int .i32 j11_n5_f2.1.VX, .int .i32 j11_n5_f2.1.VY, .int .u8 j11_n5_f2.1.Health, .int .u8 j11_n5_f2.1.Cool, .int .u8 j11_n5_f2.1.Face, .int .i32 j11_n5_f2.2.X, .int .i32 j11_n5_f2.2.Y, .int .i32 j11_n5_f2.2.VX, .int .i32 j11_n5_f2.2.VY, .int .u8 j11_n5_f2.2.Health, .int .u8 j11_n5_f2.2.Cool, .int .u8 j11_n5_f2.2.Face, .slice j38_n5_f3a0 j38_n5_f3n0 j38_n5_f3c0, .int .u16 (0 : Int), .int .u16 (0 : Int)], 30, (0, 0)⟩ :: (j38_n5_f3B0 ++ []))))) F ⟨(0 : Int), o26_0, ([] : List T_api_Shot), none, 0, 0, [], h, rfl, Own.zero, rfl, rfl⟩ (agree_cons rfl (agree_cons rfl (agree_cons rfl (agree_cons rfl (agree_cons rfl (agree_cons rfl agree_nil)))))) (pSub (pCons (Sel.sc Sel.hc) (pCons Sel.hc (pCons Sel.hc (pNo pNil))))) ?_
  clear h
  rintro m38 _ _ ⟨j38_31, j38_n10_0, j38_n5_f3, j38_n5_f3a0, j38_n5_f3n0, j38_n5_f3c0, j38_n5_f3B0, h, j38_n5_f3N0, j38_n5_f3V0, rfl, rfl⟩
  rcases m38 with _ | m38
  · rw [m_state_Take_L37.eq_1] at h; cases h
  rw [m_state_Take_L37.eq_2] at h
  refine wc_seq ?_
  refine wc_region ?_
  refine wl_pure (v := .bool (decide (j38_31 < v26))) tt_ok rfl rfl ?_
  refine wl_nil ?_
  refine wx_then ?_
  refine wc_seq ?_
  refine wc_cond rfl (fun hc => ?_) (fun hc => ?_)
  · replace h := ct hc h
    refine wc_skip ?_
    refine wx_then ?_
    refine wc_seq ?_
    refine wc_block ?_
    refine wc_k2 (Ls := (⟨b2, [.int .u64 (0 : Int), .int .u64 (0 : Int), .int .i32 (0 : Int), .int .i32 (0 : Int), .int .i32 (0 : Int), .int .i32 (0 : Int), .int .u8 (0 : Int), .int .u8 (0 : Int), .int .u8 (0 : Int), .int .i32 (0 : Int), .int .i32 (0 : Int), .int .i32 (0 : Int), .int .i32 (0 : Int), .int .u8 (0 : Int), .int .u8 (0 : Int), .int .u8 (0 : Int), .slice none 0 0, .int .u16 (0 : Int), .int .u16 (0 : Int)], 30, (0, 0)⟩ :: (⟨b5, [.int .u64 v12, .int .u64 v14, .int .i32 j11_n5_f2.1.X, .int .i32 j11_n5_f2.1.Y, .int .i32 j11_n5_f2.1.VX, .int .i32 j11_n5_f2.1.VY, .int .u8 j11_n5_f2.1.Health, .int .u8 j11_n5_f2.1.Cool, .int .u8 j11_n5_f2.1.Face, .int .i32 j11_n5_f2.2.X, .int .i32 j11_n5_f2.2.Y, .int .i32 j11_n5_f2.2.VX, .int .i32 j11_n5_f2.2.VY, .int .u8 j11_n5_f2.2.Health, .int .u8 j11_n5_f2.2.Cool, .int .u8 j11_n5_f2.2.Face, .slice j38_n5_f3a0 j38_n5_f3n0 j38_n5_f3c0, .int .u16 (0 : Int), .int .u16 (0 : Int)], 30, (0, 0)⟩ :: (j38_n5_f3B0 ++ [])))) [3, 4, 5, 6, 7] [5, 6, 7] [0, 1, 0, 4, 12, 31, 63, 127] [0, 1, 2, 3, 4, 5, 6, 7] (by kernel_rfl) (by kernel_rfl) (by kernel_rfl) ?_
    refine k_val (v := .pointer (some ⟨b5, 16, none⟩)) rfl rfl rfl (pSub (pCons Sel.hc (pCons (Sel.sc Sel.hc) (pApp (Sel.sc Sel.ha) pNil)))) (stepV_ok tt_ok rfl) rfl ?_
    refine k_val (v := .slice j38_n5_f3a0 j38_n5_f3n0 j38_n5_f3c0) rfl rfl rfl (pSub (pCons Sel.hc (pCons (Sel.sc Sel.hc) (pApp (Sel.sc Sel.ha) pNil)))) (val_load tt_ok rfl (List.Mem.tail _ (List.Mem.head _)) rfl) rfl ?_
    refine k_val rfl rfl rfl (pSub (pCons Sel.hc (pCons (Sel.sc Sel.hc) (pApp (Sel.sc Sel.ha) pNil)))) (stepV_ok tt_ok rfl) rfl ?_
    replace h := bsome h; obtain ⟨⟨o36_0, v36⟩, x36, h⟩ := h; try dsimp only at h
    refine k_cs rfl rfl rfl Tryd.call45 rfl rfl rfl (s_sp (k_state_take_api_Shot_f2_state_shot x36) (pCons (Sel.sc Sel.hc) pNil) (fun _ _ => trivial)) rfl (.inr (by rintro _ _ ⟨_, ⟨rfl, rfl⟩, rfl⟩; exact ⟨_, (pCons (Sel.sc Sel.hc) (pCons (Sel.sc Sel.hc) (pApp (Sel.sc Sel.ha) pNil)))⟩)) ?_
    rintro _ _ ⟨_, ⟨rfl, rfl⟩, rfl⟩
    refine k_chg rfl rfl rfl (chg_bsv (enc := c_T_api_Shot) (xs := ([v36] : List T_api_Shot)) tt_ok rfl rfl rfl rfl rfl rfl rfl rfl c_T_api_Shot_len) rfl (.inr (by rintro _ _ ⟨_, _, _, _, rfl, _, _, rfl⟩; exact ⟨_, (pCons (Sel.sa (Sel.sc Sel.hc)) (pCons (Sel.sa (Sel.sc Sel.hc)) (pApp (Sel.sa (Sel.sc Sel.ha)) pNil)))⟩)) ?_
    rintro _ _ ⟨a37, n37_, c37, B37, rfl, N37, V37, rfl⟩
    replace h := bsome h; obtain ⟨v38, x38, h⟩ := h
    refine k_chg rfl rfl rfl (chg_app (enc := c_T_api_Shot) (ys := ([v36] : List T_api_Shot)) tt_ok rfl rfl rfl rfl rfl rfl j38_n5_f3N0 N37 j38_n5_f3V0 (Sel.sa (Sel.sc (Sel.sc (Sel.sc Sel.ha)))) (Rds.of_vec V37) ⟨_, Sel.ha⟩ c_T_api_Shot_len (fun _ => rfl) rfl x38) rfl (.inl rfl) ?_
    rintro _ _ ⟨a38, n38_, c38, B38, rfl, N38, V38, rfl⟩
    refine k_chg rfl rfl rfl (Chg.of_val (v := .pointer (some ⟨b5, 16, none⟩)) (stepV_ok tt_ok rfl)) rfl (.inl rfl) ?_
    rintro _ _ ⟨rfl, rfl⟩
    refine k_chg0 rfl rfl rfl (chg_store tt_ok rfl (Upd.right (Upd.right (Upd.there (Upd.there Upd.here)))) rfl rfl rfl rfl rfl rfl) (.inl rfl) ?_
    rintro _ _ rfl
    refine k_end (by kernel_rfl) ?_
    refine wx_block ?_
    refine wx_then ?_
    refine wc_region ?_
    refine wl_pure (v := .int .u64 (IntKind.wrap .u64 (j38_31 + (1 : Int)))) tt_ok rfl rfl ?_
    refine wl_pure tt_ok rfl rfl ?_
    refine wl_nil ?_
    exact wx_round m38 (Nat.lt_succ_self m38) ⟨(IntKind.wrap .u64 (j38_31 + (1 : Int))), o36_0, v38, a38, n38_, c38, B38, h, N38, V38, rfl, rfl⟩ (agree_cons rfl (agree_cons rfl (agree_cons rfl (agree_cons rfl (agree_cons rfl (agree_cons rfl agree_nil)))))) (pSub (pCons (Sel.sa (Sel.sa (Sel.sc Sel.hc))) (pCons (Sel.sa (Sel.sa Sel.hc)) (pCons (Sel.sa (Sel.sa Sel.hc)) (pApp Sel.ha pNil)))))
  replace h := cf hc h
  refine wc_exit ?_
  refine wx_then_exit ?_
  simp only [Option.some.injEq, Prod.mk.injEq] at h
  obtain ⟨rfl, rfl⟩ := h
  have h := hl38; clear hl38; try dsimp only [orE_l, orE_r] at h
  refine wx_then_exit ?_
  refine wx_block_exit ?_
  refine wx_then ?_
  refine wc_seq ?_
  refine wc_seq ?_
  refine wc_region ?_
  refine wl_pure tt_ok rfl rfl ?_
  refine wl_nil ?_
  refine wx_then ?_
  refine wc_block ?_
  replace h := bsome h; obtain ⟨⟨l53_n10_0, l53_n5_f4⟩, h, hl53⟩ := h; try dsimp only at hl53
  refine wc_loop (fun m E L => ∃ (j53_41 : Int) (j53_n10_0 : T_codec_Reader) (j53_n5_f4 : (Int × Int)), m_state_Take_L52 F m j53_41 j53_n10_0 j53_n5_f4 = some (l53_n10_0, l53_n5_f4) ∧ E = [(2, .pointer (some ⟨b2, 0, none⟩)), (3, .int .i64 (0 : Int)), (4, .pointer (some ⟨b10_0, 0, none⟩)), (5, .pointer (some ⟨b5, 0, none⟩)), (41, .int .i64 j53_41)] ∧ L = (⟨b2, [.int .u64 (0 : Int), .int .u64 (0 : Int), .int .i32 (0 : Int), .int .i32 (0 : Int), .int .i32 (0 : Int), .int .i32 (0 : Int), .int .u8 (0 : Int), .int .u8 (0 : Int), .int .u8 (0 : Int), .int .i32 (0 : Int), .int .i32 (0 : Int), .int .i32 (0 : Int), .int .i32 (0 : Int), .int .u8 (0 : Int), .int .u8 (0 : Int), .int .u8 (0 : Int), .slice none 0 0, .int .u16 (0 : Int), .int .u16 (0 : Int)], 30, (0, 0)⟩ :: (⟨b10_0, [.string ⟨j53_n10_0.left.s.toArray⟩, .int .i64 j53_n10_0.left.e], 101, (0, 0)⟩ :: (⟨b5, [.int .u64 v12, .int .u64 v14, .int .i32 j11_n5_f2.1.X, .int .i32 j11_n5_f2.1.Y, .int .i32 j11_n5_f2.1.VX, .int .i32 j11_n5_f2.1.VY, .int .u8 j11_n5_f2.1.Health, .int .u8 j11_n5_f2.1.Cool, .int .u8 j11_n5_f2.1.Face, .int .i32 j11_n5_f2.2.X, .int .i32 j11_n5_f2.2.Y, .int .i32 j11_n5_f2.2.VX, .int .i32 j11_n5_f2.2.VY, .int .u8 j11_n5_f2.2.Health, .int .u8 j11_n5_f2.2.Cool, .int .u8 j11_n5_f2.2.Face, .slice j38_n5_f3a0 j38_n5_f3n0 j38_n5_f3c0, .int .u16 j53_n5_f4.1, .int .u16 j53_n5_f4.2], 30, (0, 0)⟩ :: (j38_n5_f3B0 ++ []))))) F ⟨(0 : Int), j38_n10_0, ((0 : Int), (0 : Int)), h, rfl, rfl⟩ (agree_cons rfl (agree_cons rfl (agree_cons rfl (agree_cons rfl (agree_cons rfl agree_nil))))) (pSub (pCons Sel.hc (pCons Sel.hc (pCons Sel.hc (pApp Sel.ha pNil))))) ?_
  clear h
  rintro m53 _ _ ⟨j53_41, j53_n10_0, j53_n5_f4, h, rfl, rfl⟩
  rcases m53 with _ | m53
  · rw [m_state_Take_L52.eq_1] at h; cases h
  rw [m_state_Take_L52.eq_2] at h
  refine wc_seq ?_
  refine wc_region ?_
  refine wl_pure (v := .bool (decide (j53_41 < (2 : Int)))) tt_ok rfl rfl ?_
  refine wl_nil ?_
  refine wx_then ?_
  refine wc_seq ?_
  refine wc_cond rfl (fun hc => ?_) (fun hc => ?_)
  · replace h := ct hc h
    refine wc_skip ?_
    refine wx_then ?_
    refine wc_seq ?_
    refine wc_block ?_
    refine wc_seq ?_
    refine wc_region ?_
    refine wl_pure tt_ok rfl rfl ?_
    refine wl_pure tt_ok rfl rfl ?_
    refine wl_nil ?_
    refine wx_then ?_
    refine wc_region ?_
    refine wl_pure tt_ok rfl rfl ?_
    refine wl_pure tt_ok rfl rfl ?_
    replace h := bsome h; obtain ⟨⟨o46_0, v46⟩, x46, h⟩ := h; try dsimp only at h
    refine wl_cs Tryd.call47 rfl rfl rfl (s_sp (k_codec_Reader_U16 x46) (pCons (Sel.sc Sel.hc) pNil) (fun _ _ => trivial)) rfl ?_
    rintro _ _ ⟨_, ⟨rfl, rfl⟩, rfl⟩
    refine wl_pure (v := .pointer (some ⟨b5, 17, none⟩)) tt_ok rfl rfl ?_
    rcases Bool.eq_false_or_eq_true (j53_41 == (0 : Int)) with hx480 | hx480
    · replace h := ct hx480 h
      refine wl_val (v := .pointer (some ⟨b5, 17, none⟩)) (val_ia (j := 0) tt_ok rfl rfl rfl rfl (by simpa using hx480) rfl rfl) rfl ?_
      apply wl_store tt_ok; rfl; exact (Upd.there (Upd.there Upd.here)); rfl; rfl; rfl; rfl; rfl; rfl
      refine wl_nil ?_
      refine wx_block ?_
      refine wx_then ?_
      refine wc_region ?_
      refine wl_pure (v := .int .i64 (IntKind.wrap .i64 (j53_41 + (1 : Int)))) tt_ok rfl rfl ?_
      refine wl_pure tt_ok rfl rfl ?_
      refine wl_nil ?_
      exact wx_round m53 (Nat.lt_succ_self m53) ⟨(IntKind.wrap .i64 (j53_41 + (1 : Int))), o46_0, (v46, j53_n5_f4.2), h, rfl, rfl⟩ (agree_cons rfl (agree_cons rfl (agree_cons rfl (agree_cons rfl (agree_cons rfl agree_nil))))) (pSub (pCons (Sel.sc Sel.hc) (pCons Sel.hc (pCons Sel.hc (pApp Sel.ha pNil)))))
    replace h := cf hx480 h
    rcases Bool.eq_false_or_eq_true (j53_41 == (1 : Int)) with hx481 | hx481
    · replace h := ct hx481 h
      refine wl_val (v := .pointer (some ⟨b5, 18, none⟩)) (val_ia (j := 1) tt_ok rfl rfl rfl rfl (by simpa using hx481) rfl rfl) rfl ?_
      apply wl_store tt_ok; rfl; exact (Upd.there (Upd.there Upd.here)); rfl; rfl; rfl; rfl; rfl; rfl
      refine wl_nil ?_
      refine wx_block ?_
      refine wx_then ?_
      refine wc_region ?_
      refine wl_pure (v := .int .i64 (IntKind.wrap .i64 (j53_41 + (1 : Int)))) tt_ok rfl rfl ?_
      refine wl_pure tt_ok rfl rfl ?_
      refine wl_nil ?_
      exact wx_round m53 (Nat.lt_succ_self m53) ⟨(IntKind.wrap .i64 (j53_41 + (1 : Int))), o46_0, (j53_n5_f4.1, v46), h, rfl, rfl⟩ (agree_cons rfl (agree_cons rfl (agree_cons rfl (agree_cons rfl (agree_cons rfl agree_nil))))) (pSub (pCons (Sel.sc Sel.hc) (pCons Sel.hc (pCons Sel.hc (pApp Sel.ha pNil)))))
    replace h := cf hx481 h
    cases h
  replace h := cf hc h
  refine wc_exit ?_
  refine wx_then_exit ?_
  simp only [Option.some.injEq, Prod.mk.injEq] at h
  obtain ⟨rfl, rfl⟩ := h
  have h := hl53; clear hl53; try dsimp only [orE_l, orE_r] at h
  refine wx_then_exit ?_
  refine wx_block_exit ?_
  refine wx_then ?_
  refine wc_seq ?_
  refine wc_block ?_
  refine wc_seq ?_
  refine wc_region ?_
  refine wl_pure tt_ok rfl rfl ?_
  replace h := bsome h; obtain ⟨v52, x52, h⟩ := h
  refine wl_cq Tryd.call48 rfl rfl rfl (q_rd (k_codec_Reader_Err x52) (pCons (Sel.sc Sel.hc) pNil) (fun _ _ => trivial)) rfl ?_
  refine wl_pure (v := .bool (v52 != (0 : Int))) tt_ok rfl rfl ?_
  refine wl_pure tt_ok rfl rfl ?_
  refine wl_nil ?_
  refine wx_then ?_
  refine wc_cond rfl (fun hc => ?_) (fun hc => ?_)
  · replace h := ct hc h
    refine wc_seq ?_
    refine wc_region ?_
    refine wl_pure (v := .agg #[.int .u64 (0 : Int), .int .u64 (0 : Int), .int .i32 (0 : Int), .int .i32 (0 : Int), .int .i32 (0 : Int), .int .i32 (0 : Int), .int .u8 (0 : Int), .int .u8 (0 : Int), .int .u8 (0 : Int), .int .i32 (0 : Int), .int .i32 (0 : Int), .int .i32 (0 : Int), .int .i32 (0 : Int), .int .u8 (0 : Int), .int .u8 (0 : Int), .int .u8 (0 : Int), .slice none 0 0, .int .u16 (0 : Int), .int .u16 (0 : Int)]) tt_ok rfl rfl ?_
    refine wl_pure tt_ok rfl rfl ?_
    replace h := bsome h; obtain ⟨v56, x56, h⟩ := h
    refine wl_cq Tryd.call48 rfl rfl rfl (q_rd (k_codec_Reader_Err x56) (pCons (Sel.sc Sel.hc) pNil) (fun _ _ => trivial)) rfl ?_
    apply wl_store tt_ok; rfl; exact Upd.here; rfl; rfl; rfl; rfl; rfl; rfl
    refine wl_pure tt_ok rfl rfl ?_
    refine wl_nil ?_
    refine wx_then ?_
    refine wc_ret ?_
    refine wx_block_ret ?_
    refine wx_then_ret ?_
    simp only [Option.some.injEq, Prod.mk.injEq] at h
    obtain ⟨rfl, rfl⟩ := h
    exact wx_spD tt_ok (.inl rfl) Tryd.results18 (Res.cell rfl (List.Mem.head _) rfl (Res.tmp rfl Res.nil)) ⟨none, 0, 0, [], rfl, Own.zero, rfl, rfl⟩ (fun F => by simp) (pSub (pNo pNil))
  replace h := cf hc h
  refine wc_seq ?_
  refine wc_region ?_
  refine wl_pure tt_ok rfl rfl ?_
  replace h := bsome h; obtain ⟨v59, x59, h⟩ := h
  refine wl_cq Tryd.call49 rfl rfl rfl (q_rd (k_codec_Reader_Rest x59) (pCons (Sel.sc Sel.hc) pNil) (fun _ _ => trivial)) rfl ?_
  refine wl_val (v := .bool (!(v59 == ([] : List UInt8)))) (val_sne tt_ok rfl rfl) rfl ?_
  refine wl_pure tt_ok rfl rfl ?_
  replace h := bsome h; obtain ⟨v65, h, hg65⟩ := h
  refine wl_split (t := 61) rfl (fun hc => ?_) (fun hc => ?_)
  · replace h := ct hc h
    refine wl_skip rfl rfl ?_
    refine wl_skip rfl rfl ?_
    refine wl_skip rfl rfl ?_
    simp only [Option.some.injEq, Prod.mk.injEq] at h
    obtain rfl := h
    have h := hg65; clear hg65
    refine wl_pure (v := .bool true) tt_ok rfl rfl ?_
    refine wl_pure tt_ok rfl rfl ?_
    refine wl_nil ?_
    refine wx_then ?_
    replace h := ct rfl h
    refine wc_cond_true rfl ?_
    refine wc_seq ?_
    refine wc_region ?_
    refine wl_pure (v := .agg #[.int .u64 (0 : Int), .int .u64 (0 : Int), .int .i32 (0 : Int), .int .i32 (0 : Int), .int .i32 (0 : Int), .int .i32 (0 : Int), .int .u8 (0 : Int), .int .u8 (0 : Int), .int .u8 (0 : Int), .int .i32 (0 : Int), .int .i32 (0 : Int), .int .i32 (0 : Int), .int .i32 (0 : Int), .int .u8 (0 : Int), .int .u8 (0 : Int), .int .u8 (0 : Int), .slice none 0 0, .int .u16 (0 : Int), .int .u16 (0 : Int)]) tt_ok rfl rfl ?_
    apply wl_store tt_ok; rfl; exact Upd.here; rfl; rfl; rfl; rfl; rfl; rfl
    refine wl_pure tt_ok rfl rfl ?_
    refine wl_nil ?_
    refine wx_then ?_
    refine wc_ret ?_
    refine wx_block_ret ?_
    refine wx_then_ret ?_
    simp only [Option.some.injEq, Prod.mk.injEq] at h
    obtain ⟨rfl, rfl⟩ := h
    exact wx_spD tt_ok (.inl rfl) Tryd.results18 (Res.cell rfl (List.Mem.head _) rfl (Res.tmp rfl Res.nil)) ⟨none, 0, 0, [], rfl, Own.zero, rfl, rfl⟩ (fun F => by simp) (pSub (pNo pNil))
  replace h := cf hc h
  refine wl_run rfl ?_
  refine wl_val (v := .agg #[.int .u64 v12, .int .u64 v14, .int .i32 j11_n5_f2.1.X, .int .i32 j11_n5_f2.1.Y, .int .i32 j11_n5_f2.1.VX, .int .i32 j11_n5_f2.1.VY, .int .u8 j11_n5_f2.1.Health, .int .u8 j11_n5_f2.1.Cool, .int .u8 j11_n5_f2.1.Face, .int .i32 j11_n5_f2.2.X, .int .i32 j11_n5_f2.2.Y, .int .i32 j11_n5_f2.2.VX, .int .i32 j11_n5_f2.2.VY, .int .u8 j11_n5_f2.2.Health, .int .u8 j11_n5_f2.2.Cool, .int .u8 j11_n5_f2.2.Face, .slice j38_n5_f3a0 j38_n5_f3n0 j38_n5_f3c0, .int .u16 j53_n5_f4.1, .int .u16 j53_n5_f4.2]) (val_load tt_ok rfl (List.Mem.tail _ (List.Mem.tail _ (List.Mem.head _))) rfl) rfl ?_
  replace h := bsome h; obtain ⟨v63, x63, h⟩ := h
  refine wl_run rfl ?_
  refine wl_cq Tryd.call11 rfl rfl rfl (q_pf (k_state_Check (p0 := (T_api_State.mk v12 v14 j11_n5_f2 j38_n5_f3 j53_n5_f4)) j38_n5_f3N0 (vec_cap j38_n5_f3V0) x63) (fun w hI => ⟨(Rds.call (Rds.of_vec j38_n5_f3V0) pNil ⟨_, (Sel.sc (Sel.sc (Sel.sc Sel.ha)))⟩) w hI, (Rds.call G0S pNil rsub_nil) w hI, (Rds.call G1S pNil rsub_nil) w hI⟩)) rfl ?_
  refine wl_run rfl ?_
  refine wl_pure (v := .bool (v63 != (0 : Int))) tt_ok rfl rfl ?_
  simp only [Option.some.injEq, Prod.mk.injEq] at h
  obtain rfl := h
  have h := hg65; clear hg65
  refine wl_pure (v := .bool (v63 != (0 : Int))) tt_ok rfl rfl ?_
  refine wl_pure tt_ok rfl rfl ?_
  refine wl_nil ?_
  refine wx_then ?_
  refine wc_cond rfl (fun hc => ?_) (fun hc => ?_)
  · replace h := ct hc h
    refine wc_seq ?_
    refine wc_region ?_
    refine wl_pure (v := .agg #[.int .u64 (0 : Int), .int .u64 (0 : Int), .int .i32 (0 : Int), .int .i32 (0 : Int), .int .i32 (0 : Int), .int .i32 (0 : Int), .int .u8 (0 : Int), .int .u8 (0 : Int), .int .u8 (0 : Int), .int .i32 (0 : Int), .int .i32 (0 : Int), .int .i32 (0 : Int), .int .i32 (0 : Int), .int .u8 (0 : Int), .int .u8 (0 : Int), .int .u8 (0 : Int), .slice none 0 0, .int .u16 (0 : Int), .int .u16 (0 : Int)]) tt_ok rfl rfl ?_
    apply wl_store tt_ok; rfl; exact Upd.here; rfl; rfl; rfl; rfl; rfl; rfl
    refine wl_pure tt_ok rfl rfl ?_
    refine wl_nil ?_
    refine wx_then ?_
    refine wc_ret ?_
    refine wx_block_ret ?_
    refine wx_then_ret ?_
    simp only [Option.some.injEq, Prod.mk.injEq] at h
    obtain ⟨rfl, rfl⟩ := h
    exact wx_spD tt_ok (.inl rfl) Tryd.results18 (Res.cell rfl (List.Mem.head _) rfl (Res.tmp rfl Res.nil)) ⟨none, 0, 0, [], rfl, Own.zero, rfl, rfl⟩ (fun F => by simp) (pSub (pNo pNil))
  replace h := cf hc h
  refine wc_skip ?_
  refine wx_block ?_
  refine wx_then ?_
  refine wc_seq ?_
  refine wc_region ?_
  refine wl_val (v := .agg #[.int .u64 v12, .int .u64 v14, .int .i32 j11_n5_f2.1.X, .int .i32 j11_n5_f2.1.Y, .int .i32 j11_n5_f2.1.VX, .int .i32 j11_n5_f2.1.VY, .int .u8 j11_n5_f2.1.Health, .int .u8 j11_n5_f2.1.Cool, .int .u8 j11_n5_f2.1.Face, .int .i32 j11_n5_f2.2.X, .int .i32 j11_n5_f2.2.Y, .int .i32 j11_n5_f2.2.VX, .int .i32 j11_n5_f2.2.VY, .int .u8 j11_n5_f2.2.Health, .int .u8 j11_n5_f2.2.Cool, .int .u8 j11_n5_f2.2.Face, .slice j38_n5_f3a0 j38_n5_f3n0 j38_n5_f3c0, .int .u16 j53_n5_f4.1, .int .u16 j53_n5_f4.2]) (val_load tt_ok rfl (List.Mem.tail _ (List.Mem.tail _ (List.Mem.head _))) rfl) rfl ?_
  apply wl_store tt_ok; rfl; exact Upd.here; rfl; rfl; rfl; rfl; rfl; rfl
  refine wl_pure tt_ok rfl rfl ?_
  refine wl_nil ?_
  refine wx_then ?_
  refine wc_ret ?_
  simp only [Option.some.injEq, Prod.mk.injEq] at h
  obtain ⟨rfl, rfl⟩ := h
  exact wx_spD tt_ok (.inl rfl) Tryd.results18 (Res.cell rfl (List.Mem.head _) rfl (Res.tmp rfl Res.nil)) ⟨j38_n5_f3a0, j38_n5_f3n0, j38_n5_f3c0, j38_n5_f3B0, j38_n5_f3N0, j38_n5_f3V0, rfl, rfl⟩ (fun F => by simp) (pSub (pApp (Sel.sc (Sel.sc (Sel.sc Sel.ha))) pNil))

theorem k_slices_Equal___api_Shot_api_Shot {F : Nat} {p0 : (List T_api_Shot)} {p0a0 : Option Addr} {p0n0 p0c0 : Nat} {p1 : (List T_api_Shot)} {p1a0 : Option Addr} {p1n0 p1c0 : Nat} {r0 : Bool} (p0N0 : p0n0 = p0.length) (p0H0 : p0n0 ≤ p0c0) (p1N0 : p1n0 = p1.length) (p1H0 : p1n0 ≤ p1c0) (h : m_slices_Equal___api_Shot_api_Shot F p0 p1 = some r0) :
    Pf Tryd.prog 55 [.slice p0a0 p0n0 p0c0, .slice p1a0 p1n0 p1c0] (fun w => Rds w [] [] p0a0 (flat c_T_api_Shot p0) ∧ Rds w [] [] p1a0 (flat c_T_api_Shot p1)) (.bool r0) := by
  unfold m_slices_Equal___api_Shot_api_Shot at h
  refine pf_of_wc Tryd.func55 rfl Tryd.ntmps55 rfl rfl (fun w0 hR => ?_)
  obtain ⟨p0S0, p1S0⟩ := hR
  refine wc_seq ?_
  refine wc_region ?_
  refine wl_pure tt_ok rfl rfl ?_
  refine wl_nil ?_
  refine wx_then ?_
  refine wc_seq ?_
  refine wc_seq ?_
  refine wc_region ?_
  refine wl_pure tt_ok rfl rfl ?_
  refine wl_val (v := .int .i64 (p0.length : Int)) (val_len tt_ok rfl rfl p0N0) rfl ?_
  refine wl_pure tt_ok rfl rfl ?_
  refine wl_val (v := .int .i64 (p1.length : Int)) (val_len tt_ok rfl rfl p1N0) rfl ?_
  refine wl_pure (v := .bool ((p0.length : Int) != (p1.length : Int))) tt_ok rfl rfl ?_
  refine wl_nil ?_
  refine wx_then ?_
  refine wc_cond rfl (fun hc => ?_) (fun hc => ?_)
  · replace h := ct hc h
    refine wc_seq ?_
    refine wc_region ?_
    refine wl_pure tt_ok rfl rfl ?_
    refine wl_nil ?_
    refine wx_then ?_
    refine wc_ret ?_
    refine wx_then_ret ?_
    simp only [Option.some.injEq] at h
    obtain rfl := h
    exact wx_pf tt_ok (.inl rfl) Tryd.results55 (Res.tmp rfl Res.nil) rfl
  replace h := cf hc h
  refine wc_skip ?_
  refine wx_then ?_
  refine wc_seq ?_
  refine wc_seq ?_
  refine wc_region ?_
  refine wl_pure tt_ok rfl rfl ?_
  refine wl_val (v := .int .i64 (p0.length : Int)) (val_len tt_ok rfl rfl p0N0) rfl ?_
  refine wl_pure tt_ok rfl rfl ?_
  refine wl_nil ?_
  refine wx_then ?_
  refine wc_block ?_
  replace h := bsome h; obtain ⟨o15, h, hl15⟩ := h
  refine wc_loop (fun m E L => ∃ (j15_13 : Int), m_slices_Equal___api_Shot_api_Shot_L14 F p0 p1 m j15_13 = some o15 ∧ E = [(0, .slice p0a0 p0n0 p0c0), (1, .slice p1a0 p1n0 p1c0), (4, .bool false), (12, .int .i64 (p0.length : Int)), (13, .int .i64 j15_13)] ∧ L = []) F ⟨(0 : Int), h, rfl, rfl⟩ (agree_cons rfl (agree_cons rfl (agree_cons rfl (agree_cons rfl (agree_cons rfl agree_nil))))) (pSub pNil) ?_
  clear h
  rintro m15 _ _ ⟨j15_13, h, rfl, rfl⟩
  rcases m15 with _ | m15
  · rw [m_slices_Equal___api_Shot_api_Shot_L14.eq_1] at h; cases h
  rw [m_slices_Equal___api_Shot_api_Shot_L14.eq_2] at h
  refine wc_seq ?_
  refine wc_region ?_
  refine wl_pure (v := .bool (decide (j15_13 < (p0.length : Int)))) tt_ok rfl rfl ?_
  refine wl_nil ?_
  refine wx_then ?_
  refine wc_seq ?_
  refine wc_cond rfl (fun hc => ?_) (fun hc => ?_)
  · replace h := ct hc h
    refine wc_skip ?_
    refine wx_then ?_
    refine wc_seq ?_
    refine wc_block ?_
    refine wc_seq ?_
    refine wc_region ?_
    refine wl_pure tt_ok rfl rfl ?_
    refine wl_pure tt_ok rfl rfl ?_
    refine wl_nil ?_
    refine wx_then ?_
    refine wc_seq ?_
    refine wc_quiet (by kernel_rfl) (by kernel_rfl) ?_
    refine wq_pure tt_ok rfl rfl ?_
    refine wq_pure tt_ok rfl rfl ?_
    replace h := bsome h; obtain ⟨v18, x18, h⟩ := h
    refine wq_val (v := .pointer (some ((adOf p0a0).add (j15_13.toNat * 6 + 0)))) (val_ix (enc := c_T_api_Shot) tt_ok rfl rfl rfl rfl p0N0 p0S0 c_T_api_Shot_len rfl x18) rfl ?_
    refine wq_val (v := .agg #[.int .i32 v18.X, .int .i32 v18.Y, .int .i32 v18.VX, .int .i32 v18.VY, .int .u8 v18.Owner, .int .u8 v18.Life]) (val_le (enc := c_T_api_Shot) (xs := p0) tt_ok rfl p0S0 rsub_nil c_T_api_Shot_len x18 rfl) rfl ?_
    refine wq_pure tt_ok rfl rfl ?_
    refine wq_pure tt_ok rfl rfl ?_
    replace h := bsome h; obtain ⟨v22, x22, h⟩ := h
    refine wq_val (v := .pointer (some ((adOf p1a0).add (j15_13.toNat * 6 + 0)))) (val_ix (enc := c_T_api_Shot) tt_ok rfl rfl rfl rfl p1N0 p1S0 c_T_api_Shot_len rfl x22) rfl ?_
    refine wq_val (v := .agg #[.int .i32 v22.X, .int .i32 v22.Y, .int .i32 v22.VX, .int .i32 v22.VY, .int .u8 v22.Owner, .int .u8 v22.Life]) (val_le (enc := c_T_api_Shot) (xs := p1) tt_ok rfl p1S0 rsub_nil c_T_api_Shot_len x22 rfl) rfl ?_
    refine wq_val (v := .bool (!((v18.X == v22.X) && ((v18.Y == v22.Y) && ((v18.VX == v22.VX) && ((v18.VY == v22.VY) && ((v18.Owner == v22.Owner) && (v18.Life == v22.Life)))))))) (val_nes tt_ok tt_eq tt_one Tryd.eqGuardType50 rfl rfl rfl rfl rfl) rfl ?_
    refine wq_nil ?_
    refine wx_then ?_
    refine wc_cond rfl (fun hc => ?_) (fun hc => ?_)
    · replace h := ct hc h
      refine wc_seq ?_
      refine wc_region ?_
      refine wl_pure tt_ok rfl rfl ?_
      refine wl_nil ?_
      refine wx_then ?_
      refine wc_ret ?_
      refine wx_block_ret ?_
      refine wx_then_ret ?_
      obtain rfl := Option.some.inj h
      have h := hl15; clear hl15; try dsimp only [orE_l, orE_r] at h
      refine wx_then_ret ?_
      refine wx_block_ret ?_
      refine wx_then_ret ?_
      simp only [Option.some.injEq] at h
      obtain rfl := h
      exact wx_pf tt_ok (.inl rfl) Tryd.results55 (Res.tmp rfl Res.nil) rfl
    replace h := cf hc h
    refine wc_skip ?_
    refine wx_block ?_
    refine wx_then ?_
    refine wc_region ?_
    refine wl_pure (v := .int .i64 (IntKind.wrap .i64 (j15_13 + (1 : Int)))) tt_ok rfl rfl ?_
    refine wl_pure tt_ok rfl rfl ?_
    refine wl_nil ?_
    exact wx_round m15 (Nat.lt_succ_self m15) ⟨(IntKind.wrap .i64 (j15_13 + (1 : Int))), h, rfl, rfl⟩ (agree_cons rfl (agree_cons rfl (agree_cons rfl (agree_cons rfl (agree_cons rfl agree_nil))))) (pSub pNil)
  replace h := cf hc h
  refine wc_exit ?_
  refine wx_then_exit ?_
  obtain rfl := Option.some.inj h
  have h := hl15; clear hl15; try dsimp only [orE_l, orE_r] at h
  refine wx_then_exit ?_
  refine wx_block_exit ?_
  refine wx_then ?_
  refine wc_seq ?_
  refine wc_region ?_
  refine wl_pure tt_ok rfl rfl ?_
  refine wl_nil ?_
  refine wx_then ?_
  refine wc_ret ?_
  simp only [Option.some.injEq] at h
  obtain rfl := h
  exact wx_pf tt_ok (.inl rfl) Tryd.results55 (Res.tmp rfl Res.nil) rfl

theorem k_state_Same {F : Nat} {p0 : T_api_State} {p0a0 : Option Addr} {p0n0 p0c0 : Nat} {p1 : T_api_State} {p1a0 : Option Addr} {p1n0 p1c0 : Nat} {r0 : Bool} (p0N0 : p0n0 = p0.Shots.length) (p0H0 : p0n0 ≤ p0c0) (p1N0 : p1n0 = p1.Shots.length) (p1H0 : p1n0 ≤ p1c0) (h : m_state_Same F p0 p1 = some r0) :
    Pf Tryd.prog 21 [.agg #[.int .u64 p0.Frame, .int .u64 p0.Seed, .int .i32 p0.Players.1.X, .int .i32 p0.Players.1.Y, .int .i32 p0.Players.1.VX, .int .i32 p0.Players.1.VY, .int .u8 p0.Players.1.Health, .int .u8 p0.Players.1.Cool, .int .u8 p0.Players.1.Face, .int .i32 p0.Players.2.X, .int .i32 p0.Players.2.Y, .int .i32 p0.Players.2.VX, .int .i32 p0.Players.2.VY, .int .u8 p0.Players.2.Health, .int .u8 p0.Players.2.Cool, .int .u8 p0.Players.2.Face, .slice p0a0 p0n0 p0c0, .int .u16 p0.Score.1, .int .u16 p0.Score.2], .agg #[.int .u64 p1.Frame, .int .u64 p1.Seed, .int .i32 p1.Players.1.X, .int .i32 p1.Players.1.Y, .int .i32 p1.Players.1.VX, .int .i32 p1.Players.1.VY, .int .u8 p1.Players.1.Health, .int .u8 p1.Players.1.Cool, .int .u8 p1.Players.1.Face, .int .i32 p1.Players.2.X, .int .i32 p1.Players.2.Y, .int .i32 p1.Players.2.VX, .int .i32 p1.Players.2.VY, .int .u8 p1.Players.2.Health, .int .u8 p1.Players.2.Cool, .int .u8 p1.Players.2.Face, .slice p1a0 p1n0 p1c0, .int .u16 p1.Score.1, .int .u16 p1.Score.2]] (fun w => Rds w [] [] p0a0 (flat c_T_api_Shot p0.Shots) ∧ Rds w [] [] p1a0 (flat c_T_api_Shot p1.Shots)) (.bool r0) := by
  unfold m_state_Same at h
  refine pf_of_wc Tryd.func21 rfl Tryd.ntmps21 rfl rfl (fun w0 hR => ?_)
  obtain ⟨p0S0, p1S0⟩ := hR
  refine wc_seq ?_
  refine wc_region ?_
  refine wl_box rfl rfl rfl (fun b2 => ?_)
  refine wl_box rfl rfl rfl (fun b3 => ?_)
  refine wl_pure tt_ok rfl rfl ?_
  refine wl_nil ?_
  refine wx_then ?_
  refine wc_seq ?_
  refine wc_region ?_
  refine wl_pure (v := .pointer (some ⟨b2, 0, none⟩)) tt_ok rfl rfl ?_
  refine wl_val (v := .int .u64 p0.Frame) (val_load tt_ok rfl (List.Mem.tail _ (List.Mem.head _)) rfl) rfl ?_
  refine wl_pure (v := .pointer (some ⟨b3, 0, none⟩)) tt_ok rfl rfl ?_
  refine wl_val (v := .int .u64 p1.Frame) (val_load tt_ok rfl (List.Mem.head _) rfl) rfl ?_
  refine wl_pure (v := .bool (p0.Frame == p1.Frame)) tt_ok rfl rfl ?_
  refine wl_pure tt_ok rfl rfl ?_
  replace h := bsome h; obtain ⟨v16, h, hg16⟩ := h
  refine wl_split (t := 10) rfl (fun hc => ?_) (fun hc => ?_)
  · replace h := ct hc h
    refine wl_run rfl ?_
    refine wl_pure (v := .pointer (some ⟨b2, 1, none⟩)) tt_ok rfl rfl ?_
    refine wl_run rfl ?_
    refine wl_val (v := .int .u64 p0.Seed) (val_load tt_ok rfl (List.Mem.tail _ (List.Mem.head _)) rfl) rfl ?_
    refine wl_run rfl ?_
    refine wl_pure (v := .pointer (some ⟨b3, 1, none⟩)) tt_ok rfl rfl ?_
    refine wl_run rfl ?_
    refine wl_val (v := .int .u64 p1.Seed) (val_load tt_ok rfl (List.Mem.head _) rfl) rfl ?_
    refine wl_run rfl ?_
    refine wl_pure (v := .bool (p0.Seed == p1.Seed)) tt_ok rfl rfl ?_
    simp only [Option.some.injEq, Prod.mk.injEq] at h
    obtain rfl := h
    have h := hg16; clear hg16
    refine wl_pure (v := .bool (p0.Seed == p1.Seed)) tt_ok rfl rfl ?_
    refine wl_pure tt_ok rfl rfl ?_
    replace h := bsome h; obtain ⟨v23, h, hg23⟩ := h
    refine wl_split (t := 17) rfl (fun hc => ?_) (fun hc => ?_)
    · replace h := ct hc h
      refine wl_run rfl ?_
      refine wl_pure (v := .pointer (some ⟨b2, 2, none⟩)) tt_ok rfl rfl ?_
      refine wl_run rfl ?_
      refine wl_val (v := .agg #[.int .i32 p0.Players.1.X, .int .i32 p0.Players.1.Y, .int .i32 p0.Players.1.VX, .int .i32 p0.Players.1.VY, .int .u8 p0.Players.1.Health, .int .u8 p0.Players.1.Cool, .int .u8 p0.Players.1.Face, .int .i32 p0.Players.2.X, .int .i32 p0.Players.2.Y, .int .i32 p0.Players.2.VX, .int .i32 p0.Players.2.VY, .int .u8 p0.Players.2.Health, .int .u8 p0.Players.2.Cool, .int .u8 p0.Players.2.Face]) (val_load tt_ok rfl (List.Mem.tail _ (List.Mem.head _)) rfl) rfl ?_
      refine wl_run rfl ?_
      refine wl_pure (v := .pointer (some ⟨b3, 2, none⟩)) tt_ok rfl rfl ?_
      refine wl_run rfl ?_
      refine wl_val (v := .agg #[.int .i32 p1.Players.1.X, .int .i32 p1.Players.1.Y, .int .i32 p1.Players.1.VX, .int .i32 p1.Players.1.VY, .int .u8 p1.Players.1.Health, .int .u8 p1.Players.1.Cool, .int .u8 p1.Players.1.Face, .int .i32 p1.Players.2.X, .int .i32 p1.Players.2.Y, .int .i32 p1.Players.2.VX, .int .i32 p1.Players.2.VY, .int .u8 p1.Players.2.Health, .int .u8 p1.Players.2.Cool, .int .u8 p1.Players.2.Face]) (val_load tt_ok rfl (List.Mem.head _) rfl) rfl ?_
      refine wl_run rfl ?_
      refine wl_val (v := .bool (((p0.Players.1.X == p1.Players.1.X) && ((p0.Players.1.Y == p1.Players.1.Y) && ((p0.Players.1.VX == p1.Players.1.VX) && ((p0.Players.1.VY == p1.Players.1.VY) && ((p0.Players.1.Health == p1.Players.1.Health) && ((p0.Players.1.Cool == p1.Players.1.Cool) && (p0.Players.1.Face == p1.Players.1.Face))))))) && ((p0.Players.2.X == p1.Players.2.X) && ((p0.Players.2.Y == p1.Players.2.Y) && ((p0.Players.2.VX == p1.Players.2.VX) && ((p0.Players.2.VY == p1.Players.2.VY) && ((p0.Players.2.Health == p1.Players.2.Health) && ((p0.Players.2.Cool == p1.Players.2.Cool) && (p0.Players.2.Face == p1.Players.2.Face))))))))) (val_eqs tt_ok tt_eq tt_one Tryd.eqGuardType25 rfl rfl rfl rfl rfl) rfl ?_
      simp only [Option.some.injEq, Prod.mk.injEq] at h
      obtain rfl := h
      have h := hg23; clear hg23
      refine wl_pure (v := .bool (((p0.Players.1.X == p1.Players.1.X) && ((p0.Players.1.Y == p1.Players.1.Y) && ((p0.Players.1.VX == p1.Players.1.VX) && ((p0.Players.1.VY == p1.Players.1.VY) && ((p0.Players.1.Health == p1.Players.1.Health) && ((p0.Players.1.Cool == p1.Players.1.Cool) && (p0.Players.1.Face == p1.Players.1.Face))))))) && ((p0.Players.2.X == p1.Players.2.X) && ((p0.Players.2.Y == p1.Players.2.Y) && ((p0.Players.2.VX == p1.Players.2.VX) && ((p0.Players.2.VY == p1.Players.2.VY) && ((p0.Players.2.Health == p1.Players.2.Health) && ((p0.Players.2.Cool == p1.Players.2.Cool) && (p0.Players.2.Face == p1.Players.2.Face))))))))) tt_ok rfl rfl ?_
      refine wl_pure tt_ok rfl rfl ?_
      replace h := bsome h; obtain ⟨v30, h, hg30⟩ := h
      refine wl_split (t := 24) rfl (fun hc => ?_) (fun hc => ?_)
      · replace h := ct hc h
        refine wl_run rfl ?_
        refine wl_pure (v := .pointer (some ⟨b2, 17, none⟩)) tt_ok rfl rfl ?_
        refine wl_run rfl ?_
        refine wl_val (v := .agg #[.int .u16 p0.Score.1, .int .u16 p0.Score.2]) (val_load tt_ok rfl (List.Mem.tail _ (List.Mem.head _)) rfl) rfl ?_
        refine wl_run rfl ?_
        refine wl_pure (v := .pointer (some ⟨b3, 17, none⟩)) tt_ok rfl rfl ?_
        refine wl_run rfl ?_
        refine wl_val (v := .agg #[.int .u16 p1.Score.1, .int .u16 p1.Score.2]) (val_load tt_ok rfl (List.Mem.head _) rfl) rfl ?_
        refine wl_run rfl ?_
        refine wl_val (v := .bool ((p0.Score.1 == p1.Score.1) && (p0.Score.2 == p1.Score.2))) (val_eqs tt_ok tt_eq tt_one Tryd.eqGuardType28 rfl rfl rfl rfl rfl) rfl ?_
        simp only [Option.some.injEq, Prod.mk.injEq] at h
        obtain rfl := h
        have h := hg30; clear hg30
        refine wl_pure (v := .bool ((p0.Score.1 == p1.Score.1) && (p0.Score.2 == p1.Score.2))) tt_ok rfl rfl ?_
        refine wl_pure tt_ok rfl rfl ?_
        replace h := bsome h; obtain ⟨v37, h, hg37⟩ := h
        refine wl_split (t := 31) rfl (fun hc => ?_) (fun hc => ?_)
        · replace h := ct hc h
          refine wl_run rfl ?_
          refine wl_pure (v := .pointer (some ⟨b2, 16, none⟩)) tt_ok rfl rfl ?_
          refine wl_run rfl ?_
          refine wl_val (v := .slice p0a0 p0n0 p0c0) (val_load tt_ok rfl (List.Mem.tail _ (List.Mem.head _)) rfl) rfl ?_
          refine wl_run rfl ?_
          refine wl_pure (v := .pointer (some ⟨b3, 16, none⟩)) tt_ok rfl rfl ?_
          refine wl_run rfl ?_
          refine wl_val (v := .slice p1a0 p1n0 p1c0) (val_load tt_ok rfl (List.Mem.head _) rfl) rfl ?_
          replace h := bsome h; obtain ⟨v36, x36, h⟩ := h
          refine wl_run rfl ?_
          refine wl_cq Tryd.call55 rfl rfl rfl (q_pf (k_slices_Equal___api_Shot_api_Shot (p0 := p0.Shots) (p1 := p1.Shots) p0N0 p0H0 p1N0 p1H0 x36) (fun w hI => ⟨(Rds.call p0S0 pNil rsub_nil) w hI, (Rds.call p1S0 pNil rsub_nil) w hI⟩)) rfl ?_
          simp only [Option.some.injEq, Prod.mk.injEq] at h
          obtain rfl := h
          have h := hg37; clear hg37
          refine wl_pure (v := .bool v36) tt_ok rfl rfl ?_
          refine wl_pure tt_ok rfl rfl ?_
          refine wl_nil ?_
          refine wx_then ?_
          refine wc_ret ?_
          simp only [Option.some.injEq] at h
          obtain rfl := h
          exact wx_pf tt_ok (.inl rfl) Tryd.results21 (Res.tmp rfl Res.nil) rfl
        replace h := cf hc h
        refine wl_skip rfl rfl ?_
        refine wl_skip rfl rfl ?_
        refine wl_skip rfl rfl ?_
        refine wl_skip rfl rfl ?_
        refine wl_skip rfl rfl ?_
        simp only [Option.some.injEq, Prod.mk.injEq] at h
        obtain rfl := h
        have h := hg37; clear hg37
        refine wl_pure (v := .bool false) tt_ok rfl rfl ?_
        refine wl_pure tt_ok rfl rfl ?_
        refine wl_nil ?_
        refine wx_then ?_
        refine wc_ret ?_
        simp only [Option.some.injEq] at h
        obtain rfl := h
        exact wx_pf tt_ok (.inl rfl) Tryd.results21 (Res.tmp rfl Res.nil) rfl
      replace h := cf hc h
      refine wl_skip rfl rfl ?_
      refine wl_skip rfl rfl ?_
      refine wl_skip rfl rfl ?_
      refine wl_skip rfl rfl ?_
      refine wl_skip rfl rfl ?_
      simp only [Option.some.injEq, Prod.mk.injEq] at h
      obtain rfl := h
      have h := hg30; clear hg30
      refine wl_pure (v := .bool false) tt_ok rfl rfl ?_
      refine wl_pure tt_ok rfl rfl ?_
      replace h := bsome h; obtain ⟨v37, h, hg37⟩ := h
      replace h := cf rfl h
      refine wl_skip rfl rfl ?_
      refine wl_skip rfl rfl ?_
      refine wl_skip rfl rfl ?_
      refine wl_skip rfl rfl ?_
      refine wl_skip rfl rfl ?_
      simp only [Option.some.injEq, Prod.mk.injEq] at h
      obtain rfl := h
      have h := hg37; clear hg37
      refine wl_pure (v := .bool false) tt_ok rfl rfl ?_
      refine wl_pure tt_ok rfl rfl ?_
      refine wl_nil ?_
      refine wx_then ?_
      refine wc_ret ?_
      simp only [Option.some.injEq] at h
      obtain rfl := h
      exact wx_pf tt_ok (.inl rfl) Tryd.results21 (Res.tmp rfl Res.nil) rfl
    replace h := cf hc h
    refine wl_skip rfl rfl ?_
    refine wl_skip rfl rfl ?_
    refine wl_skip rfl rfl ?_
    refine wl_skip rfl rfl ?_
    refine wl_skip rfl rfl ?_
    simp only [Option.some.injEq, Prod.mk.injEq] at h
    obtain rfl := h
    have h := hg23; clear hg23
    refine wl_pure (v := .bool false) tt_ok rfl rfl ?_
    refine wl_pure tt_ok rfl rfl ?_
    replace h := bsome h; obtain ⟨v30, h, hg30⟩ := h
    replace h := cf rfl h
    refine wl_skip rfl rfl ?_
    refine wl_skip rfl rfl ?_
    refine wl_skip rfl rfl ?_
    refine wl_skip rfl rfl ?_
    refine wl_skip rfl rfl ?_
    simp only [Option.some.injEq, Prod.mk.injEq] at h
    obtain rfl := h
    have h := hg30; clear hg30
    refine wl_pure (v := .bool false) tt_ok rfl rfl ?_
    refine wl_pure tt_ok rfl rfl ?_
    replace h := bsome h; obtain ⟨v37, h, hg37⟩ := h
    replace h := cf rfl h
    refine wl_skip rfl rfl ?_
    refine wl_skip rfl rfl ?_
    refine wl_skip rfl rfl ?_
    refine wl_skip rfl rfl ?_
    refine wl_skip rfl rfl ?_
    simp only [Option.some.injEq, Prod.mk.injEq] at h
    obtain rfl := h
    have h := hg37; clear hg37
    refine wl_pure (v := .bool false) tt_ok rfl rfl ?_
    refine wl_pure tt_ok rfl rfl ?_
    refine wl_nil ?_
    refine wx_then ?_
    refine wc_ret ?_
    simp only [Option.some.injEq] at h
    obtain rfl := h
    exact wx_pf tt_ok (.inl rfl) Tryd.results21 (Res.tmp rfl Res.nil) rfl
  replace h := cf hc h
  refine wl_skip rfl rfl ?_
  refine wl_skip rfl rfl ?_
  refine wl_skip rfl rfl ?_
  refine wl_skip rfl rfl ?_
  refine wl_skip rfl rfl ?_
  simp only [Option.some.injEq, Prod.mk.injEq] at h
  obtain rfl := h
  have h := hg16; clear hg16
  refine wl_pure (v := .bool false) tt_ok rfl rfl ?_
  refine wl_pure tt_ok rfl rfl ?_
  replace h := bsome h; obtain ⟨v23, h, hg23⟩ := h
  replace h := cf rfl h
  refine wl_skip rfl rfl ?_
  refine wl_skip rfl rfl ?_
  refine wl_skip rfl rfl ?_
  refine wl_skip rfl rfl ?_
  refine wl_skip rfl rfl ?_
  simp only [Option.some.injEq, Prod.mk.injEq] at h
  obtain rfl := h
  have h := hg23; clear hg23
  refine wl_pure (v := .bool false) tt_ok rfl rfl ?_
  refine wl_pure tt_ok rfl rfl ?_
  replace h := bsome h; obtain ⟨v30, h, hg30⟩ := h
  replace h := cf rfl h
  refine wl_skip rfl rfl ?_
  refine wl_skip rfl rfl ?_
  refine wl_skip rfl rfl ?_
  refine wl_skip rfl rfl ?_
  refine wl_skip rfl rfl ?_
  simp only [Option.some.injEq, Prod.mk.injEq] at h
  obtain rfl := h
  have h := hg30; clear hg30
  refine wl_pure (v := .bool false) tt_ok rfl rfl ?_
  refine wl_pure tt_ok rfl rfl ?_
  replace h := bsome h; obtain ⟨v37, h, hg37⟩ := h
  replace h := cf rfl h
  refine wl_skip rfl rfl ?_
  refine wl_skip rfl rfl ?_
  refine wl_skip rfl rfl ?_
  refine wl_skip rfl rfl ?_
  refine wl_skip rfl rfl ?_
  simp only [Option.some.injEq, Prod.mk.injEq] at h
  obtain rfl := h
  have h := hg37; clear hg37
  refine wl_pure (v := .bool false) tt_ok rfl rfl ?_
  refine wl_pure tt_ok rfl rfl ?_
  refine wl_nil ?_
  refine wx_then ?_
  refine wc_ret ?_
  simp only [Option.some.injEq] at h
  obtain rfl := h
  exact wx_pf tt_ok (.inl rfl) Tryd.results21 (Res.tmp rfl Res.nil) rfl

theorem k_hindcastlaw08_fails {F : Nat} {p0 : (List UInt8)} {p1 : Int} {r0 : Bool} (h : m_hindcastlaw08_fails F p0 p1 = some r0) :
    Pf Tryd.prog 22 [.string ⟨p0.toArray⟩, .int .i64 p1] (fun w => Rds w [] [] (some ⟨0, 0, none⟩) (flat (fun _ : Unit => gl_state_playerBounds) [()]) ∧ Rds w [] [] (some ⟨1, 0, none⟩) (flat (fun _ : Unit => gl_state_shotBounds) [()])) (.bool r0) := by
  unfold m_hindcastlaw08_fails at h
  refine pf_of_wc Tryd.func22 rfl Tryd.ntmps22 rfl rfl (fun w0 hR => ?_)
  obtain ⟨G0S, G1S⟩ := hR
  refine wc_seq ?_
  refine wc_region ?_
  refine wl_pure tt_ok rfl rfl ?_
  refine wl_nil ?_
  refine wx_then ?_
  refine wc_seq ?_
  refine wc_region ?_
  refine wl_pure tt_ok rfl rfl ?_
  replace h := bsome h; obtain ⟨⟨v9_0, v9_1⟩, x9, h⟩ := h; try dsimp only at h
  refine wl_cs Tryd.call18 rfl rfl rfl (s_sp (k_state_Take x9) pNil (fun w hI => ⟨(Rds.call G0S pNil rsub_nil) w hI, (Rds.call G1S pNil rsub_nil) w hI⟩)) rfl ?_
  rintro _ _ ⟨_, ⟨v9_0a0, v9_0n0, v9_0c0, v9_0B0, v9_0N0, v9_0V0, rfl, rfl⟩, rfl⟩
  refine wl_pure tt_ok rfl rfl ?_
  refine wl_pure tt_ok rfl rfl ?_
  refine wl_pure tt_ok rfl rfl ?_
  refine wl_alloc tt_ok rfl rfl (fun b5 => ?_)
  apply wl_store tt_ok; rfl; exact Upd.here; rfl; rfl; rfl; rfl; rfl; rfl
  refine wl_pure tt_ok rfl rfl ?_
  refine wl_nil ?_
  refine wx_then ?_
  refine wc_seq ?_
  refine wc_region ?_
  refine wl_pure tt_ok rfl rfl ?_
  refine wl_pure tt_ok rfl rfl ?_
  refine wl_pure (v := .bool (v9_1 == p1)) tt_ok rfl rfl ?_
  refine wl_pure tt_ok rfl rfl ?_
  replace h := bsome h; obtain ⟨v19, h, hg19⟩ := h
  refine wl_split (t := 15) rfl (fun hc => ?_) (fun hc => ?_)
  · replace h := ct hc h
    refine wl_run rfl ?_
    refine wl_val (v := .agg #[.int .u64 v9_0.Frame, .int .u64 v9_0.Seed, .int .i32 v9_0.Players.1.X, .int .i32 v9_0.Players.1.Y, .int .i32 v9_0.Players.1.VX, .int .i32 v9_0.Players.1.VY, .int .u8 v9_0.Players.1.Health, .int .u8 v9_0.Players.1.Cool, .int .u8 v9_0.Players.1.Face, .int .i32 v9_0.Players.2.X, .int .i32 v9_0.Players.2.Y, .int .i32 v9_0.Players.2.VX, .int .i32 v9_0.Players.2.VY, .int .u8 v9_0.Players.2.Health, .int .u8 v9_0.Players.2.Cool, .int .u8 v9_0.Players.2.Face, .slice v9_0a0 v9_0n0 v9_0c0, .int .u16 v9_0.Score.1, .int .u16 v9_0.Score.2]) (val_load tt_ok rfl (List.Mem.head _) rfl) rfl ?_
    refine wl_run rfl ?_
    refine wl_pure (v := .agg #[.int .u64 (0 : Int), .int .u64 (0 : Int), .int .i32 (0 : Int), .int .i32 (0 : Int), .int .i32 (0 : Int), .int .i32 (0 : Int), .int .u8 (0 : Int), .int .u8 (0 : Int), .int .u8 (0 : Int), .int .i32 (0 : Int), .int .i32 (0 : Int), .int .i32 (0 : Int), .int .i32 (0 : Int), .int .u8 (0 : Int), .int .u8 (0 : Int), .int .u8 (0 : Int), .slice none 0 0, .int .u16 (0 : Int), .int .u16 (0 : Int)]) tt_ok rfl rfl ?_
    replace h := bsome h; obtain ⟨v18, x18, h⟩ := h
    refine wl_run rfl ?_
    refine wl_cq Tryd.call21 rfl rfl rfl (q_pf (k_state_Same (p0 := v9_0) (p1 := (T_api_State.mk (0 : Int) (0 : Int) ((T_api_Player.mk (0 : Int) (0 : Int) (0 : Int) (0 : Int) (0 : Int) (0 : Int) (0 : Int)), (T_api_Player.mk (0 : Int) (0 : Int) (0 : Int) (0 : Int) (0 : Int) (0 : Int) (0 : Int))) ([] : List T_api_Shot) ((0 : Int), (0 : Int)))) v9_0N0 (vec_cap v9_0V0) rfl (Nat.le_refl _) x18) (fun w hI => ⟨(Rds.call (Rds.of_vec v9_0V0) pNil ⟨_, (Sel.sc Sel.ha)⟩) w hI, (fun _ _ => Rds.nil) w hI⟩)) rfl ?_
    simp only [Option.some.injEq, Prod.mk.injEq] at h
    obtain rfl := h
    have h := hg19; clear hg19
    refine wl_pure (v := .bool v18) tt_ok rfl rfl ?_
    refine wl_pure tt_ok rfl rfl ?_
    refine wl_nil ?_
    refine wx_then ?_
    refine wc_ret ?_
    simp only [Option.some.injEq] at h
    obtain rfl := h
    exact wx_pf tt_ok (.inl rfl) Tryd.results22 (Res.tmp rfl Res.nil) rfl
  replace h := cf hc h
  refine wl_skip rfl rfl ?_
  refine wl_skip rfl rfl ?_
  refine wl_skip rfl rfl ?_
  simp only [Option.some.injEq, Prod.mk.injEq] at h
  obtain rfl := h
  have h := hg19; clear hg19
  refine wl_pure (v := .bool false) tt_ok rfl rfl ?_
  refine wl_pure tt_ok rfl rfl ?_
  refine wl_nil ?_
  refine wx_then ?_
  refine wc_ret ?_
  simp only [Option.some.injEq] at h
  obtain rfl := h
  exact wx_pf tt_ok (.inl rfl) Tryd.results22 (Res.tmp rfl Res.nil) rfl

theorem k_hindcastlaw08_works {F : Nat} {r0 : Bool} (h : m_hindcastlaw08_works F = some r0) :
    Pf Tryd.prog 9 [] (fun w => Rds w [] [] (some ⟨0, 0, none⟩) (flat (fun _ : Unit => gl_state_playerBounds) [()]) ∧ Rds w [] [] (some ⟨1, 0, none⟩) (flat (fun _ : Unit => gl_state_shotBounds) [()])) (.bool r0) := by
  unfold m_hindcastlaw08_works at h
  refine pf_of_wc Tryd.func9 rfl Tryd.ntmps9 rfl rfl (fun w0 hR => ?_)
  obtain ⟨G0S, G1S⟩ := hR
  refine wc_seq ?_
  refine wc_region ?_
  refine wl_pure tt_ok rfl rfl ?_
  refine wl_nil ?_
  refine wx_then ?_
  refine wc_seq ?_
  refine wc_region ?_
  replace h := bsome h; obtain ⟨v4, x4, h⟩ := h
  refine wl_cs Tryd.call23 rfl rfl rfl (s_sp (k_hindcastlaw08_first x4) pNil (fun _ _ => trivial)) rfl ?_
  rintro _ _ ⟨_, ⟨v4a0, v4n0, v4c0, v4B0, v4N0, v4V0, rfl, rfl⟩, rfl⟩
  replace h := bsome h; obtain ⟨v5, x5, h⟩ := h
  refine wl_cq Tryd.call13 rfl rfl rfl (q_pf (k_state_Put (p0 := v4) v4N0 (vec_cap v4V0) x5) (fun w hI => ⟨(Rds.call (Rds.of_vec v4V0) pNil ⟨_, Sel.ha⟩) w hI, (Rds.call G0S pNil rsub_nil) w hI, (Rds.call G1S pNil rsub_nil) w hI⟩)) rfl ?_
  refine wl_pure tt_ok rfl rfl ?_
  refine wl_nil ?_
  refine wx_then ?_
  refine wc_seq ?_
  refine wc_region ?_
  refine wl_pure tt_ok rfl rfl ?_
  replace h := bsome h; obtain ⟨⟨v8_0, v8_1⟩, x8, h⟩ := h; try dsimp only at h
  refine wl_cs Tryd.call18 rfl rfl rfl (s_sp (k_state_Take x8) pNil (fun w hI => ⟨(Rds.call G0S pNil rsub_nil) w hI, (Rds.call G1S pNil rsub_nil) w hI⟩)) rfl ?_
  rintro _ _ ⟨_, ⟨v8_0a0, v8_0n0, v8_0c0, v8_0B0, v8_0N0, v8_0V0, rfl, rfl⟩, rfl⟩
  refine wl_pure tt_ok rfl rfl ?_
  refine wl_pure tt_ok rfl rfl ?_
  refine wl_pure tt_ok rfl rfl ?_
  refine wl_alloc tt_ok rfl rfl (fun b2 => ?_)
  apply wl_store tt_ok; rfl; exact Upd.here; rfl; rfl; rfl; rfl; rfl; rfl
  refine wl_pure tt_ok rfl rfl ?_
  refine wl_nil ?_
  refine wx_then ?_
  refine wc_seq ?_
  refine wc_k2 (Ls := (⟨b2, [.int .u64 v8_0.Frame, .int .u64 v8_0.Seed, .int .i32 v8_0.Players.1.X, .int .i32 v8_0.Players.1.Y, .int .i32 v8_0.Players.1.VX, .int .i32 v8_0.Players.1.VY, .int .u8 v8_0.Players.1.Health, .int .u8 v8_0.Players.1.Cool, .int .u8 v8_0.Players.1.Face, .int .i32 v8_0.Players.2.X, .int .i32 v8_0.Players.2.Y, .int .i32 v8_0.Players.2.VX, .int .i32 v8_0.Players.2.VY, .int .u8 v8_0.Players.2.Health, .int .u8 v8_0.Players.2.Cool, .int .u8 v8_0.Players.2.Face, .slice v8_0a0 v8_0n0 v8_0c0, .int .u16 v8_0.Score.1, .int .u16 v8_0.Score.2], 30, (0, 0)⟩ :: (v8_0B0 ++ (v4B0 ++ [])))) [9, 10, 13, 16, 17] [] [0, 1, 3, 7, 15, 31, 63, 127, 255, 255, 1023, 2047, 4095, 8191, 16383, 32767, 65535, 131071, 262143, 524287, 1048575, 2097151] [0, 1, 2, 3, 4, 5, 6, 7, 8, 9, 10, 11, 12, 13, 14, 15, 16, 17, 18, 19, 20, 21] (by kernel_rfl) (by kernel_rfl) (by kernel_rfl) ?_
  refine k_val rfl rfl rfl (pSub (pCons Sel.hc (pApp Sel.ha (pApp Sel.ha pNil)))) (stepV_ok tt_ok rfl) rfl ?_
  refine k_val (v := .int .i64 (v5.length : Int)) rfl rfl rfl (pSub (pCons Sel.hc (pApp Sel.ha (pApp Sel.ha pNil)))) (stepV_ok tt_ok rfl) rfl ?_
  refine k_val (v := .bool ((v5.length : Int) == (77 : Int))) rfl rfl rfl (pSub (pCons Sel.hc (pApp Sel.ha (pApp Sel.ha pNil)))) (stepV_ok tt_ok rfl) rfl ?_
  refine k_val rfl rfl rfl (pSub (pCons Sel.hc (pApp Sel.ha (pApp Sel.ha pNil)))) (stepV_ok tt_ok rfl) rfl ?_
  replace h := bsome h; obtain ⟨v17, h, hg17⟩ := h
  refine k_split (t := 14) rfl (fun hc => ?_) (fun hc => ?_)
  · replace h := ct hc h
    refine k_val rfl rfl rfl (pSub (pCons Sel.hc (pApp Sel.ha (pApp Sel.ha pNil)))) (stepV_ok tt_ok rfl) rfl ?_
    refine k_val (v := .bool (v8_1 == (0 : Int))) rfl rfl rfl (pSub (pCons Sel.hc (pApp Sel.ha (pApp Sel.ha pNil)))) (stepV_ok tt_ok rfl) rfl ?_
    simp only [Option.some.injEq, Prod.mk.injEq] at h
    obtain rfl := h
    have h := hg17; clear hg17
    refine k_val (v := .bool (v8_1 == (0 : Int))) rfl rfl rfl (pSub (pCons Sel.hc (pApp Sel.ha (pApp Sel.ha pNil)))) (stepV_ok tt_ok rfl) rfl ?_
    refine k_val rfl rfl rfl (pSub (pCons Sel.hc (pApp Sel.ha (pApp Sel.ha pNil)))) (stepV_ok tt_ok rfl) rfl ?_
    replace h := bsome h; obtain ⟨v22, h, hg22⟩ := h
    refine k_split (t := 18) rfl (fun hc => ?_) (fun hc => ?_)
    · replace h := ct hc h
      refine k_val (v := .agg #[.int .u64 v8_0.Frame, .int .u64 v8_0.Seed, .int .i32 v8_0.Players.1.X, .int .i32 v8_0.Players.1.Y, .int .i32 v8_0.Players.1.VX, .int .i32 v8_0.Players.1.VY, .int .u8 v8_0.Players.1.Health, .int .u8 v8_0.Players.1.Cool, .int .u8 v8_0.Players.1.Face, .int .i32 v8_0.Players.2.X, .int .i32 v8_0.Players.2.Y, .int .i32 v8_0.Players.2.VX, .int .i32 v8_0.Players.2.VY, .int .u8 v8_0.Players.2.Health, .int .u8 v8_0.Players.2.Cool, .int .u8 v8_0.Players.2.Face, .slice v8_0a0 v8_0n0 v8_0c0, .int .u16 v8_0.Score.1, .int .u16 v8_0.Score.2]) rfl rfl rfl (pSub (pCons Sel.hc (pApp Sel.ha (pApp Sel.ha pNil)))) (val_load tt_ok rfl (List.Mem.head _) rfl) rfl ?_
      replace h := bsome h; obtain ⟨v20, x20, h⟩ := h
      refine k_cs rfl rfl rfl Tryd.call23 rfl rfl rfl (s_sp (k_hindcastlaw08_first x20) pNil (fun _ _ => trivial)) rfl (.inr (by rintro _ _ ⟨_, ⟨_, _, _, _, _, _, rfl, rfl⟩, rfl⟩; exact ⟨_, (pCons (Sel.sa Sel.hc) (pApp (Sel.sa Sel.ha) (pApp (Sel.sa Sel.ha) pNil)))⟩)) ?_
      rintro _ _ ⟨_, ⟨v20a0, v20n0, v20c0, v20B0, v20N0, v20V0, rfl, rfl⟩, rfl⟩
      replace h := bsome h; obtain ⟨v21, x21, h⟩ := h
      refine k_cq rfl rfl rfl Tryd.call21 rfl rfl rfl (q_pf (k_state_Same (p0 := v8_0) (p1 := v20) v8_0N0 (vec_cap v8_0V0) v20N0 (vec_cap v20V0) x21) (fun w hI => ⟨(Rds.call (Rds.of_vec v8_0V0) pNil ⟨_, (Sel.sa (Sel.sc Sel.ha))⟩) w hI, (Rds.call (Rds.of_vec v20V0) pNil ⟨_, Sel.ha⟩) w hI⟩)) rfl (pSub (pCons (Sel.sa Sel.hc) (pApp (Sel.sa Sel.ha) (pApp (Sel.sa Sel.ha) pNil)))) ?_
      simp only [Option.some.injEq, Prod.mk.injEq] at h
      obtain rfl := h
      have h := hg22; clear hg22
      refine k_val (v := .bool v21) rfl rfl rfl (pSub (pCons (Sel.sa Sel.hc) (pApp (Sel.sa Sel.ha) (pApp (Sel.sa Sel.ha) pNil)))) (stepV_ok tt_ok rfl) rfl ?_
      refine k_val rfl rfl rfl (pSub (pCons (Sel.sa Sel.hc) (pApp (Sel.sa Sel.ha) (pApp (Sel.sa Sel.ha) pNil)))) (stepV_ok tt_ok rfl) rfl ?_
      replace h := bsome h; obtain ⟨v25, h, hg25⟩ := h
      refine k_split (t := 23) rfl (fun hc => ?_) (fun hc => ?_)
      · replace h := ct hc h
        replace h := bsome h; obtain ⟨v24, x24, h⟩ := h
        refine k_cq rfl rfl rfl Tryd.call22 rfl rfl rfl (q_pf (k_hindcastlaw08_fails x24) (fun w hI => ⟨(Rds.call G0S pNil rsub_nil) w hI, (Rds.call G1S pNil rsub_nil) w hI⟩)) rfl (pSub (pCons (Sel.sa Sel.hc) (pApp (Sel.sa Sel.ha) (pApp (Sel.sa Sel.ha) pNil)))) ?_
        simp only [Option.some.injEq, Prod.mk.injEq] at h
        obtain rfl := h
        have h := hg25; clear hg25
        refine k_val (v := .bool v24) rfl rfl rfl (pSub (pCons (Sel.sa Sel.hc) (pApp (Sel.sa Sel.ha) (pApp (Sel.sa Sel.ha) pNil)))) (stepV_ok tt_ok rfl) rfl ?_
        refine k_val rfl rfl rfl (pSub (pCons (Sel.sa Sel.hc) (pApp (Sel.sa Sel.ha) (pApp (Sel.sa Sel.ha) pNil)))) (stepV_ok tt_ok rfl) rfl ?_
        replace h := bsome h; obtain ⟨v31, h, hg31⟩ := h
        refine k_split (t := 26) rfl (fun hc => ?_) (fun hc => ?_)
        · replace h := ct hc h
          replace h := bsome h; obtain ⟨v27, x27, h⟩ := h
          refine k_cs rfl rfl rfl Tryd.call16 rfl rfl rfl (s_sp (k_state_Start x27) pNil (fun _ _ => trivial)) rfl (.inr (by rintro _ _ ⟨_, ⟨_, _, _, _, _, _, rfl, rfl⟩, rfl⟩; exact ⟨_, (pCons (Sel.sa (Sel.sa Sel.hc)) (pApp (Sel.sa (Sel.sa Sel.ha)) (pApp (Sel.sa (Sel.sa Sel.ha)) pNil)))⟩)) ?_
          rintro _ _ ⟨_, ⟨v27a0, v27n0, v27c0, v27B0, v27N0, v27V0, rfl, rfl⟩, rfl⟩
          replace h := bsome h; obtain ⟨v28, x28, h⟩ := h
          refine k_cq rfl rfl rfl Tryd.call13 rfl rfl rfl (q_pf (k_state_Put (p0 := v27) v27N0 (vec_cap v27V0) x28) (fun w hI => ⟨(Rds.call (Rds.of_vec v27V0) pNil ⟨_, Sel.ha⟩) w hI, (Rds.call G0S pNil rsub_nil) w hI, (Rds.call G1S pNil rsub_nil) w hI⟩)) rfl (pSub (pCons (Sel.sa (Sel.sa Sel.hc)) (pApp (Sel.sa (Sel.sa Sel.ha)) (pApp (Sel.sa (Sel.sa Sel.ha)) pNil)))) ?_
          refine k_val (v := .int .i64 (v28.length : Int)) rfl rfl rfl (pSub (pCons (Sel.sa (Sel.sa Sel.hc)) (pApp (Sel.sa (Sel.sa Sel.ha)) (pApp (Sel.sa (Sel.sa Sel.ha)) pNil)))) (stepV_ok tt_ok rfl) rfl ?_
          refine k_val (v := .bool ((v28.length : Int) == (59 : Int))) rfl rfl rfl (pSub (pCons (Sel.sa (Sel.sa Sel.hc)) (pApp (Sel.sa (Sel.sa Sel.ha)) (pApp (Sel.sa (Sel.sa Sel.ha)) pNil)))) (stepV_ok tt_ok rfl) rfl ?_
          simp only [Option.some.injEq, Prod.mk.injEq] at h
          obtain rfl := h
          have h := hg31; clear hg31
          refine k_val (v := .bool ((v28.length : Int) == (59 : Int))) rfl rfl rfl (pSub (pCons (Sel.sa (Sel.sa Sel.hc)) (pApp (Sel.sa (Sel.sa Sel.ha)) (pApp (Sel.sa (Sel.sa Sel.ha)) pNil)))) (stepV_ok tt_ok rfl) rfl ?_
          refine k_val rfl rfl rfl (pSub (pCons (Sel.sa (Sel.sa Sel.hc)) (pApp (Sel.sa (Sel.sa Sel.ha)) (pApp (Sel.sa (Sel.sa Sel.ha)) pNil)))) (stepV_ok tt_ok rfl) rfl ?_
          refine k_end (by kernel_rfl) ?_
          refine wx_then ?_
          refine wc_ret ?_
          simp only [Option.some.injEq] at h
          obtain rfl := h
          exact wx_pf tt_ok (.inl rfl) Tryd.results9 (Res.tmp rfl Res.nil) rfl
        replace h := cf hc h
        refine k_skip rfl rfl (pSub (pCons (Sel.sa Sel.hc) (pApp (Sel.sa Sel.ha) (pApp (Sel.sa Sel.ha) pNil)))) rfl ?_
        refine k_skip rfl rfl (pSub (pCons (Sel.sa Sel.hc) (pApp (Sel.sa Sel.ha) (pApp (Sel.sa Sel.ha) pNil)))) rfl ?_
        refine k_skip rfl rfl (pSub (pCons (Sel.sa Sel.hc) (pApp (Sel.sa Sel.ha) (pApp (Sel.sa Sel.ha) pNil)))) rfl ?_
        refine k_skip rfl rfl (pSub (pCons (Sel.sa Sel.hc) (pApp (Sel.sa Sel.ha) (pApp (Sel.sa Sel.ha) pNil)))) rfl ?_
        simp only [Option.some.injEq, Prod.mk.injEq] at h
        obtain rfl := h
        have h := hg31; clear hg31
        refine k_val (v := .bool false) rfl rfl rfl (pSub (pCons (Sel.sa Sel.hc) (pApp (Sel.sa Sel.ha) (pApp (Sel.sa Sel.ha) pNil)))) (stepV_ok tt_ok rfl) rfl ?_
        refine k_val rfl rfl rfl (pSub (pCons (Sel.sa Sel.hc) (pApp (Sel.sa Sel.ha) (pApp (Sel.sa Sel.ha) pNil)))) (stepV_ok tt_ok rfl) rfl ?_
        refine k_end (by kernel_rfl) ?_
        refine wx_then ?_
        refine wc_ret ?_
        simp only [Option.some.injEq] at h
        obtain rfl := h
        exact wx_pf tt_ok (.inl rfl) Tryd.results9 (Res.tmp rfl Res.nil) rfl
      replace h := cf hc h
      refine k_skip rfl rfl (pSub (pCons (Sel.sa Sel.hc) (pApp (Sel.sa Sel.ha) (pApp (Sel.sa Sel.ha) pNil)))) rfl ?_
      simp only [Option.some.injEq, Prod.mk.injEq] at h
      obtain rfl := h
      have h := hg25; clear hg25
      refine k_val (v := .bool false) rfl rfl rfl (pSub (pCons (Sel.sa Sel.hc) (pApp (Sel.sa Sel.ha) (pApp (Sel.sa Sel.ha) pNil)))) (stepV_ok tt_ok rfl) rfl ?_
      refine k_val rfl rfl rfl (pSub (pCons (Sel.sa Sel.hc) (pApp (Sel.sa Sel.ha) (pApp (Sel.sa Sel.ha) pNil)))) (stepV_ok tt_ok rfl) rfl ?_
      replace h := bsome h; obtain ⟨v31, h, hg31⟩ := h
      replace h := cf rfl h
      refine k_skip rfl rfl (pSub (pCons (Sel.sa Sel.hc) (pApp (Sel.sa Sel.ha) (pApp (Sel.sa Sel.ha) pNil)))) rfl ?_
      refine k_skip rfl rfl (pSub (pCons (Sel.sa Sel.hc) (pApp (Sel.sa Sel.ha) (pApp (Sel.sa Sel.ha) pNil)))) rfl ?_
      refine k_skip rfl rfl (pSub (pCons (Sel.sa Sel.hc) (pApp (Sel.sa Sel.ha) (pApp (Sel.sa Sel.ha) pNil)))) rfl ?_
      refine k_skip rfl rfl (pSub (pCons (Sel.sa Sel.hc) (pApp (Sel.sa Sel.ha) (pApp (Sel.sa Sel.ha) pNil)))) rfl ?_
      simp only [Option.some.injEq, Prod.mk.injEq] at h
      obtain rfl := h
      have h := hg31; clear hg31
      refine k_val (v := .bool false) rfl rfl rfl (pSub (pCons (Sel.sa Sel.hc) (pApp (Sel.sa Sel.ha) (pApp (Sel.sa Sel.ha) pNil)))) (stepV_ok tt_ok rfl) rfl ?_
      refine k_val rfl rfl rfl (pSub (pCons (Sel.sa Sel.hc) (pApp (Sel.sa Sel.ha) (pApp (Sel.sa Sel.ha) pNil)))) (stepV_ok tt_ok rfl) rfl ?_
      refine k_end (by kernel_rfl) ?_
      refine wx_then ?_
      refine wc_ret ?_
      simp only [Option.some.injEq] at h
      obtain rfl := h
      exact wx_pf tt_ok (.inl rfl) Tryd.results9 (Res.tmp rfl Res.nil) rfl
    replace h := cf hc h
    refine k_skip rfl rfl (pSub (pCons Sel.hc (pApp Sel.ha (pApp Sel.ha pNil)))) rfl ?_
    refine k_skip rfl rfl (pSub (pCons Sel.hc (pApp Sel.ha (pApp Sel.ha pNil)))) rfl ?_
    refine k_skip rfl rfl (pSub (pCons Sel.hc (pApp Sel.ha (pApp Sel.ha pNil)))) rfl ?_
    simp only [Option.some.injEq, Prod.mk.injEq] at h
    obtain rfl := h
    have h := hg22; clear hg22
    refine k_val (v := .bool false) rfl rfl rfl (pSub (pCons Sel.hc (pApp Sel.ha (pApp Sel.ha pNil)))) (stepV_ok tt_ok rfl) rfl ?_
    refine k_val rfl rfl rfl (pSub (pCons Sel.hc (pApp Sel.ha (pApp Sel.ha pNil)))) (stepV_ok tt_ok rfl) rfl ?_
    replace h := bsome h; obtain ⟨v25, h, hg25⟩ := h
    replace h := cf rfl h
    refine k_skip rfl rfl (pSub (pCons Sel.hc (pApp Sel.ha (pApp Sel.ha pNil)))) rfl ?_
    simp only [Option.some.injEq, Prod.mk.injEq] at h
    obtain rfl := h
    have h := hg25; clear hg25
    refine k_val (v := .bool false) rfl rfl rfl (pSub (pCons Sel.hc (pApp Sel.ha (pApp Sel.ha pNil)))) (stepV_ok tt_ok rfl) rfl ?_
    refine k_val rfl rfl rfl (pSub (pCons Sel.hc (pApp Sel.ha (pApp Sel.ha pNil)))) (stepV_ok tt_ok rfl) rfl ?_
    replace h := bsome h; obtain ⟨v31, h, hg31⟩ := h
    replace h := cf rfl h
    refine k_skip rfl rfl (pSub (pCons Sel.hc (pApp Sel.ha (pApp Sel.ha pNil)))) rfl ?_
    refine k_skip rfl rfl (pSub (pCons Sel.hc (pApp Sel.ha (pApp Sel.ha pNil)))) rfl ?_
    refine k_skip rfl rfl (pSub (pCons Sel.hc (pApp Sel.ha (pApp Sel.ha pNil)))) rfl ?_
    refine k_skip rfl rfl (pSub (pCons Sel.hc (pApp Sel.ha (pApp Sel.ha pNil)))) rfl ?_
    simp only [Option.some.injEq, Prod.mk.injEq] at h
    obtain rfl := h
    have h := hg31; clear hg31
    refine k_val (v := .bool false) rfl rfl rfl (pSub (pCons Sel.hc (pApp Sel.ha (pApp Sel.ha pNil)))) (stepV_ok tt_ok rfl) rfl ?_
    refine k_val rfl rfl rfl (pSub (pCons Sel.hc (pApp Sel.ha (pApp Sel.ha pNil)))) (stepV_ok tt_ok rfl) rfl ?_
    refine k_end (by kernel_rfl) ?_
    refine wx_then ?_
    refine wc_ret ?_
    simp only [Option.some.injEq] at h
    obtain rfl := h
    exact wx_pf tt_ok (.inl rfl) Tryd.results9 (Res.tmp rfl Res.nil) rfl
  replace h := cf hc h
  refine k_skip rfl rfl (pSub (pCons Sel.hc (pApp Sel.ha (pApp Sel.ha pNil)))) rfl ?_
  refine k_skip rfl rfl (pSub (pCons Sel.hc (pApp Sel.ha (pApp Sel.ha pNil)))) rfl ?_
  simp only [Option.some.injEq, Prod.mk.injEq] at h
  obtain rfl := h
  have h := hg17; clear hg17
  refine k_val (v := .bool false) rfl rfl rfl (pSub (pCons Sel.hc (pApp Sel.ha (pApp Sel.ha pNil)))) (stepV_ok tt_ok rfl) rfl ?_
  refine k_val rfl rfl rfl (pSub (pCons Sel.hc (pApp Sel.ha (pApp Sel.ha pNil)))) (stepV_ok tt_ok rfl) rfl ?_
  replace h := bsome h; obtain ⟨v22, h, hg22⟩ := h
  replace h := cf rfl h
  refine k_skip rfl rfl (pSub (pCons Sel.hc (pApp Sel.ha (pApp Sel.ha pNil)))) rfl ?_
  refine k_skip rfl rfl (pSub (pCons Sel.hc (pApp Sel.ha (pApp Sel.ha pNil)))) rfl ?_
  refine k_skip rfl rfl (pSub (pCons Sel.hc (pApp Sel.ha (pApp Sel.ha pNil)))) rfl ?_
  simp only [Option.some.injEq, Prod.mk.injEq] at h
  obtain rfl := h
  have h := hg22; clear hg22
  refine k_val (v := .bool false) rfl rfl rfl (pSub (pCons Sel.hc (pApp Sel.ha (pApp Sel.ha pNil)))) (stepV_ok tt_ok rfl) rfl ?_
  refine k_val rfl rfl rfl (pSub (pCons Sel.hc (pApp Sel.ha (pApp Sel.ha pNil)))) (stepV_ok tt_ok rfl) rfl ?_
  replace h := bsome h; obtain ⟨v25, h, hg25⟩ := h
  replace h := cf rfl h
  refine k_skip rfl rfl (pSub (pCons Sel.hc (pApp Sel.ha (pApp Sel.ha pNil)))) rfl ?_
  simp only [Option.some.injEq, Prod.mk.injEq] at h
  obtain rfl := h
  have h := hg25; clear hg25
  refine k_val (v := .bool false) rfl rfl rfl (pSub (pCons Sel.hc (pApp Sel.ha (pApp Sel.ha pNil)))) (stepV_ok tt_ok rfl) rfl ?_
  refine k_val rfl rfl rfl (pSub (pCons Sel.hc (pApp Sel.ha (pApp Sel.ha pNil)))) (stepV_ok tt_ok rfl) rfl ?_
  replace h := bsome h; obtain ⟨v31, h, hg31⟩ := h
  replace h := cf rfl h
  refine k_skip rfl rfl (pSub (pCons Sel.hc (pApp Sel.ha (pApp Sel.ha pNil)))) rfl ?_
  refine k_skip rfl rfl (pSub (pCons Sel.hc (pApp Sel.ha (pApp Sel.ha pNil)))) rfl ?_
  refine k_skip rfl rfl (pSub (pCons Sel.hc (pApp Sel.ha (pApp Sel.ha pNil)))) rfl ?_
  refine k_skip rfl rfl (pSub (pCons Sel.hc (pApp Sel.ha (pApp Sel.ha pNil)))) rfl ?_
  simp only [Option.some.injEq, Prod.mk.injEq] at h
  obtain rfl := h
  have h := hg31; clear hg31
  refine k_val (v := .bool false) rfl rfl rfl (pSub (pCons Sel.hc (pApp Sel.ha (pApp Sel.ha pNil)))) (stepV_ok tt_ok rfl) rfl ?_
  refine k_val rfl rfl rfl (pSub (pCons Sel.hc (pApp Sel.ha (pApp Sel.ha pNil)))) (stepV_ok tt_ok rfl) rfl ?_
  refine k_end (by kernel_rfl) ?_
  refine wx_then ?_
  refine wc_ret ?_
  simp only [Option.some.injEq] at h
  obtain rfl := h
  exact wx_pf tt_ok (.inl rfl) Tryd.results9 (Res.tmp rfl Res.nil) rfl

theorem k_hindcastref02_Reader_fail {F : Nat} {p0 : T_hindcastref02_Reader} {p0b p0t : Nat} {p1 : Int} {r0 : T_hindcastref02_Reader} (h : m_hindcastref02_Reader_fail F p0 p1 = some r0) :
    SpD Tryd.prog 69 [.pointer (some ⟨p0b, 0, none⟩), .int .i64 p1] (⟨p0b, [.string ⟨p0.S.toArray⟩, .int .i64 p0.At, .int .i64 p0.E], p0t, (0, 0)⟩ :: []) (fun w => True) (fun v D => v = .tuple #[] ∧ D = fun F => (⟨p0b, [.string ⟨r0.S.toArray⟩, .int .i64 r0.At, .int .i64 r0.E], p0t, (0, 0)⟩ :: F)) := by
  unfold m_hindcastref02_Reader_fail at h
  refine sp_of_wc Tryd.func69 rfl Tryd.ntmps69 rfl rfl (fun w0 hR => ?_)
  refine wc_seq ?_
  refine wc_region ?_
  refine wl_pure tt_ok rfl rfl ?_
  refine wl_pure tt_ok rfl rfl ?_
  refine wl_pure (v := .pointer (some ⟨p0b, 2, none⟩)) tt_ok rfl rfl ?_
  refine wl_val (v := .int .i64 p0.E) (val_load tt_ok rfl (List.Mem.head _) rfl) rfl ?_
  refine wl_pure (v := .bool (p0.E == (0 : Int))) tt_ok rfl rfl ?_
  refine wl_nil ?_
  refine wx_then ?_
  refine wc_cond rfl (fun hc => ?_) (fun hc => ?_)
  · replace h := ct hc h
    refine wc_region ?_
    refine wl_pure tt_ok rfl rfl ?_
    refine wl_pure tt_ok rfl rfl ?_
    refine wl_pure tt_ok rfl rfl ?_
    refine wl_pure (v := .pointer (some ⟨p0b, 2, none⟩)) tt_ok rfl rfl ?_
    apply wl_store tt_ok; rfl; exact Upd.here; rfl; rfl; rfl; rfl; rfl; rfl
    refine wl_nil ?_
    simp only [Option.some.injEq] at h
    obtain rfl := h
    exact wx_spD tt_ok (.inr rfl) Tryd.results69 Res.nil ⟨rfl, rfl⟩ (fun F => by simp) (pSub (pCons Sel.hc pNil))
  replace h := cf hc h
  refine wc_skip ?_
  simp only [Option.some.injEq] at h
  obtain rfl := h
  exact wx_spD tt_ok (.inr rfl) Tryd.results69 Res.nil ⟨rfl, rfl⟩ (fun F => by simp) (pSub (pCons Sel.hc pNil))

theorem k_hindcastref02_Reader_Number {F : Nat} {p0 : T_hindcastref02_Reader} {p0b p0t : Nat} {p1 : Int} {r0 : T_hindcastref02_Reader} {r1 : Int} (h : m_hindcastref02_Reader_Number F p0 p1 = some (r0, r1)) :
    SpD Tryd.prog 50 [.pointer (some ⟨p0b, 0, none⟩), .int .i64 p1] (⟨p0b, [.string ⟨p0.S.toArray⟩, .int .i64 p0.At, .int .i64 p0.E], p0t, (0, 0)⟩ :: []) (fun w => True) (fun v D => v = .int .u64 r1 ∧ D = fun F => (⟨p0b, [.string ⟨r0.S.toArray⟩, .int .i64 r0.At, .int .i64 r0.E], p0t, (0, 0)⟩ :: F)) := by
  unfold m_hindcastref02_Reader_Number at h
  refine sp_of_wc Tryd.func50 rfl Tryd.ntmps50 rfl rfl (fun w0 hR => ?_)
  refine wc_seq ?_
  refine wc_region ?_
  refine wl_pure tt_ok rfl rfl ?_
  refine wl_nil ?_
  refine wx_then ?_
  refine wc_seq ?_
  refine wc_seq ?_
  refine wc_quiet (by kernel_rfl) (by kernel_rfl) ?_
  refine wq_pure tt_ok rfl rfl ?_
  refine wq_pure tt_ok rfl rfl ?_
  refine wq_pure (v := .pointer (some ⟨p0b, 2, none⟩)) tt_ok rfl rfl ?_
  refine wq_val (v := .int .i64 p0.E) (val_load tt_ok rfl (List.Mem.head _) rfl) rfl ?_
  refine wq_pure (v := .bool (p0.E != (0 : Int))) tt_ok rfl rfl ?_
  refine wq_pure tt_ok rfl rfl ?_
  replace h := bsome h; obtain ⟨v25, h, hg25⟩ := h
  refine wq_split (t := 12) rfl (fun hc => ?_) (fun hc => ?_)
  · replace h := ct hc h
    refine wq_skip rfl rfl ?_
    refine wq_skip rfl rfl ?_
    refine wq_skip rfl rfl ?_
    refine wq_skip rfl rfl ?_
    refine wq_skip rfl rfl ?_
    refine wq_skip rfl rfl ?_
    refine wq_skip rfl rfl ?_
    refine wq_skip rfl rfl ?_
    refine wq_skip rfl rfl ?_
    refine wq_skip rfl rfl ?_
    refine wq_skip rfl rfl ?_
    refine wq_skip rfl rfl ?_
    simp only [Option.some.injEq, Prod.mk.injEq] at h
    obtain rfl := h
    have h := hg25; clear hg25
    refine wq_pure (v := .bool true) tt_ok rfl rfl ?_
    refine wq_nil ?_
    refine wx_then ?_
    replace h := ct rfl h
    refine wc_cond_true rfl ?_
    refine wc_seq ?_
    refine wc_region ?_
    refine wl_pure tt_ok rfl rfl ?_
    replace h := bsome h; obtain ⟨o27_0, x27, h⟩ := h
    refine wl_cs Tryd.call69 rfl rfl rfl (s_sp (k_hindcastref02_Reader_fail x27) (pCons Sel.hc pNil) (fun _ _ => trivial)) rfl ?_
    rintro _ _ ⟨_, ⟨rfl, rfl⟩, rfl⟩
    refine wl_nil ?_
    refine wx_then ?_
    refine wc_seq ?_
    refine wc_region ?_
    refine wl_pure tt_ok rfl rfl ?_
    refine wl_nil ?_
    refine wx_then ?_
    refine wc_ret ?_
    refine wx_then_ret ?_
    simp only [Option.some.injEq, Prod.mk.injEq] at h
    obtain ⟨rfl, rfl⟩ := h
    exact wx_spD tt_ok (.inl rfl) Tryd.results50 (Res.tmp rfl Res.nil) ⟨rfl, rfl⟩ (fun F => by simp) (pSub (pCons Sel.hc pNil))
  replace h := cf hc h
  refine wq_run rfl ?_
  refine wq_pure tt_ok rfl rfl ?_
  refine wq_run rfl ?_
  refine wq_pure tt_ok rfl rfl ?_
  refine wq_run rfl ?_
  refine wq_pure (v := .pointer (some ⟨p0b, 0, none⟩)) tt_ok rfl rfl ?_
  refine wq_run rfl ?_
  refine wq_val (v := .string ⟨p0.S.toArray⟩) (val_load tt_ok rfl (List.Mem.head _) rfl) rfl ?_
  refine wq_run rfl ?_
  refine wq_pure (v := .int .i64 (p0.S.length : Int)) tt_ok rfl rfl ?_
  refine wq_run rfl ?_
  refine wq_pure tt_ok rfl rfl ?_
  refine wq_run rfl ?_
  refine wq_pure tt_ok rfl rfl ?_
  refine wq_run rfl ?_
  refine wq_pure (v := .pointer (some ⟨p0b, 1, none⟩)) tt_ok rfl rfl ?_
  refine wq_run rfl ?_
  refine wq_val (v := .int .i64 p0.At) (val_load tt_ok rfl (List.Mem.head _) rfl) rfl ?_
  refine wq_run rfl ?_
  refine wq_pure (v := .int .i64 (IntKind.wrap .i64 ((p0.S.length : Int) - p0.At))) tt_ok rfl rfl ?_
  refine wq_run rfl ?_
  refine wq_pure tt_ok rfl rfl ?_
  refine wq_run rfl ?_
  refine wq_pure (v := .bool (decide ((IntKind.wrap .i64 ((p0.S.length : Int) - p0.At)) < p1))) tt_ok rfl rfl ?_
  simp only [Option.some.injEq, Prod.mk.injEq] at h
  obtain rfl := h
  have h := hg25; clear hg25
  refine wq_pure (v := .bool (decide ((IntKind.wrap .i64 ((p0.S.length : Int) - p0.At)) < p1))) tt_ok rfl rfl ?_
  refine wq_nil ?_
  refine wx_then ?_
  refine wc_cond rfl (fun hc => ?_) (fun hc => ?_)
  · replace h := ct hc h
    refine wc_seq ?_
    refine wc_region ?_
    refine wl_pure tt_ok rfl rfl ?_
    replace h := bsome h; obtain ⟨o27_0, x27, h⟩ := h
    refine wl_cs Tryd.call69 rfl rfl rfl (s_sp (k_hindcastref02_Reader_fail x27) (pCons Sel.hc pNil) (fun _ _ => trivial)) rfl ?_
    rintro _ _ ⟨_, ⟨rfl, rfl⟩, rfl⟩
    refine wl_nil ?_
    refine wx_then ?_
    refine wc_seq ?_
    refine wc_region ?_
    refine wl_pure tt_ok rfl rfl ?_
    refine wl_nil ?_
    refine wx_then ?_
    refine wc_ret ?_
    refine wx_then_ret ?_
    simp only [Option.some.injEq, Prod.mk.injEq] at h
    obtain ⟨rfl, rfl⟩ := h
    exact wx_spD tt_ok (.inl rfl) Tryd.results50 (Res.tmp rfl Res.nil) ⟨rfl, rfl⟩ (fun F => by simp) (pSub (pCons Sel.hc pNil))
  replace h := cf hc h
  refine wc_skip ?_
  refine wx_then ?_
  refine wc_seq ?_
  refine wc_region ?_
  refine wl_pure tt_ok rfl rfl ?_
  refine wl_nil ?_
  refine wx_then ?_
  refine wc_seq ?_
  refine wc_seq ?_
  refine wc_region ?_
  refine wl_pure tt_ok rfl rfl ?_
  refine wl_pure (v := .int .i64 (IntKind.wrap .i64 (p1 - (1 : Int)))) tt_ok rfl rfl ?_
  refine wl_pure tt_ok rfl rfl ?_
  refine wl_nil ?_
  refine wx_then ?_
  refine wc_block ?_
  replace h := bsome h; obtain ⟨l19_5, h, hl19⟩ := h
  refine wc_loop (fun m E L => ∃ (j19_5 : Int) (j19_6 : Int), m_hindcastref02_Reader_Number_L18 F p0 m j19_5 j19_6 = some l19_5 ∧ E = [(0, .pointer (some ⟨p0b, 0, none⟩)), (1, .int .i64 p1), (4, .int .u64 (0 : Int)), (5, .int .u64 j19_5), (6, .int .i64 j19_6)] ∧ L = (⟨p0b, [.string ⟨p0.S.toArray⟩, .int .i64 p0.At, .int .i64 p0.E], p0t, (0, 0)⟩ :: [])) F ⟨(0 : Int), (IntKind.wrap .i64 (p1 - (1 : Int))), h, rfl, rfl⟩ (agree_cons rfl (agree_cons rfl (agree_cons rfl (agree_cons rfl (agree_cons rfl agree_nil))))) (pSub (pCons Sel.hc pNil)) ?_
  clear h
  rintro m19 _ _ ⟨j19_5, j19_6, h, rfl, rfl⟩
  rcases m19 with _ | m19
  · rw [m_hindcastref02_Reader_Number_L18.eq_1] at h; cases h
  rw [m_hindcastref02_Reader_Number_L18.eq_2] at h
  refine wc_seq ?_
  refine wc_seq ?_
  refine wc_region ?_
  refine wl_pure tt_ok rfl rfl ?_
  refine wl_pure (v := .bool (decide ((0 : Int) ≤ j19_6))) tt_ok rfl rfl ?_
  refine wl_nil ?_
  refine wx_then ?_
  refine wc_cond rfl (fun hc => ?_) (fun hc => ?_)
  · replace h := ct hc h
    refine wc_skip ?_
    refine wx_then ?_
    refine wc_seq ?_
    refine wc_block ?_
    refine wc_quiet (by kernel_rfl) (by kernel_rfl) ?_
    refine wq_pure tt_ok rfl rfl ?_
    refine wq_pure (v := .int .u64 (IntKind.wrap .u64 ((256 : Int) * j19_5))) tt_ok rfl rfl ?_
    refine wq_pure tt_ok rfl rfl ?_
    refine wq_pure tt_ok rfl rfl ?_
    refine wq_pure (v := .pointer (some ⟨p0b, 0, none⟩)) tt_ok rfl rfl ?_
    refine wq_val (v := .string ⟨p0.S.toArray⟩) (val_load tt_ok rfl (List.Mem.head _) rfl) rfl ?_
    refine wq_pure tt_ok rfl rfl ?_
    refine wq_pure tt_ok rfl rfl ?_
    refine wq_pure (v := .pointer (some ⟨p0b, 1, none⟩)) tt_ok rfl rfl ?_
    refine wq_val (v := .int .i64 p0.At) (val_load tt_ok rfl (List.Mem.head _) rfl) rfl ?_
    refine wq_pure tt_ok rfl rfl ?_
    refine wq_pure (v := .int .i64 (IntKind.wrap .i64 (p0.At + j19_6))) tt_ok rfl rfl ?_
    replace h := bsome h; obtain ⟨v46, x46, h⟩ := h
    refine wq_val (v := .int .u8 (v46.toNat : Int)) (val_sx tt_ok rfl rfl rfl x46) rfl ?_
    refine wq_pure (v := .int .u64 (IntKind.wrap .u64 (v46.toNat : Int))) tt_ok rfl rfl ?_
    refine wq_pure (v := .int .u64 (IntKind.wrap .u64 ((IntKind.wrap .u64 ((256 : Int) * j19_5)) + (IntKind.wrap .u64 (v46.toNat : Int))))) tt_ok rfl rfl ?_
    refine wq_pure tt_ok rfl rfl ?_
    refine wq_nil ?_
    refine wx_block ?_
    refine wx_then ?_
    refine wc_region ?_
    refine wl_pure tt_ok rfl rfl ?_
    refine wl_pure (v := .int .i64 (IntKind.wrap .i64 (j19_6 - (1 : Int)))) tt_ok rfl rfl ?_
    refine wl_pure tt_ok rfl rfl ?_
    refine wl_nil ?_
    exact wx_round m19 (Nat.lt_succ_self m19) ⟨(IntKind.wrap .u64 ((IntKind.wrap .u64 ((256 : Int) * j19_5)) + (IntKind.wrap .u64 (v46.toNat : Int)))), (IntKind.wrap .i64 (j19_6 - (1 : Int))), h, rfl, rfl⟩ (agree_cons rfl (agree_cons rfl (agree_cons rfl (agree_cons rfl (agree_cons rfl agree_nil))))) (pSub (pCons Sel.hc pNil))
  replace h := cf hc h
  refine wc_exit ?_
  refine wx_then_exit ?_
  simp only [Option.some.injEq] at h
  obtain rfl := h
  have h := hl19; clear hl19; try dsimp only [orE_l, orE_r] at h
  refine wx_then_exit ?_
  refine wx_block_exit ?_
  refine wx_then ?_
  refine wc_seq ?_
  refine wc_region ?_
  refine wl_pure tt_ok rfl rfl ?_
  refine wl_pure tt_ok rfl rfl ?_
  refine wl_pure tt_ok rfl rfl ?_
  refine wl_pure (v := .pointer (some ⟨p0b, 1, none⟩)) tt_ok rfl rfl ?_
  refine wl_val (v := .int .i64 p0.At) (val_load tt_ok rfl (List.Mem.head _) rfl) rfl ?_
  refine wl_pure tt_ok rfl rfl ?_
  refine wl_pure (v := .int .i64 (IntKind.wrap .i64 (p0.At + p1))) tt_ok rfl rfl ?_
  refine wl_pure tt_ok rfl rfl ?_
  refine wl_pure (v := .pointer (some ⟨p0b, 1, none⟩)) tt_ok rfl rfl ?_
  apply wl_store tt_ok; rfl; exact Upd.here; rfl; rfl; rfl; rfl; rfl; rfl
  refine wl_nil ?_
  refine wx_then ?_
  refine wc_seq ?_
  refine wc_region ?_
  refine wl_pure tt_ok rfl rfl ?_
  refine wl_pure tt_ok rfl rfl ?_
  refine wl_nil ?_
  refine wx_then ?_
  refine wc_ret ?_
  simp only [Option.some.injEq, Prod.mk.injEq] at h
  obtain ⟨rfl, rfl⟩ := h
  exact wx_spD tt_ok (.inl rfl) Tryd.results50 (Res.tmp rfl Res.nil) ⟨rfl, rfl⟩ (fun F => by simp) (pSub (pCons Sel.hc pNil))

theorem k_hindcastref08_number {F : Nat} {p0 : T_hindcastref02_Reader} {p0b p0t : Nat} {r0 : T_hindcastref02_Reader} {r1 : Int} (h : m_hindcastref08_number F p0 = some (r0, r1)) :
    SpD Tryd.prog 51 [.pointer (some ⟨p0b, 0, none⟩)] (⟨p0b, [.string ⟨p0.S.toArray⟩, .int .i64 p0.At, .int .i64 p0.E], p0t, (0, 0)⟩ :: []) (fun w => True) (fun v D => v = .int .i32 r1 ∧ D = fun F => (⟨p0b, [.string ⟨r0.S.toArray⟩, .int .i64 r0.At, .int .i64 r0.E], p0t, (0, 0)⟩ :: F)) := by
  unfold m_hindcastref08_number at h
  refine sp_of_wc Tryd.func51 rfl Tryd.ntmps51 rfl rfl (fun w0 hR => ?_)
  refine wc_seq ?_
  refine wc_region ?_
  refine wl_pure tt_ok rfl rfl ?_
  refine wl_nil ?_
  refine wx_then ?_
  refine wc_seq ?_
  refine wc_region ?_
  refine wl_pure tt_ok rfl rfl ?_
  replace h := bsome h; obtain ⟨⟨o4_0, v4⟩, x4, h⟩ := h; try dsimp only at h
  refine wl_cs Tryd.call50 rfl rfl rfl (s_sp (k_hindcastref02_Reader_Number x4) (pCons Sel.hc pNil) (fun _ _ => trivial)) rfl ?_
  rintro _ _ ⟨_, ⟨rfl, rfl⟩, rfl⟩
  refine wl_pure (v := .int .u32 (IntKind.wrap .u32 v4)) tt_ok rfl rfl ?_
  refine wl_pure (v := .int .i32 (IntKind.wrap .i32 (IntKind.wrap .u32 v4))) tt_ok rfl rfl ?_
  refine wl_pure tt_ok rfl rfl ?_
  refine wl_nil ?_
  refine wx_then ?_
  refine wc_ret ?_
  simp only [Option.some.injEq, Prod.mk.injEq] at h
  obtain ⟨rfl, rfl⟩ := h
  exact wx_spD tt_ok (.inl rfl) Tryd.results51 (Res.tmp rfl Res.nil) ⟨rfl, rfl⟩ (fun F => by simp) (pSub (pCons Sel.hc pNil))

theorem k_hindcastref02_Reader_Var {F : Nat} {p0 : T_hindcastref02_Reader} {p0b p0t : Nat} {r0 : T_hindcastref02_Reader} {r1 : Int} (h : m_hindcastref02_Reader_Var F p0 = some (r0, r1)) :
    SpD Tryd.prog 52 [.pointer (some ⟨p0b, 0, none⟩)] (⟨p0b, [.string ⟨p0.S.toArray⟩, .int .i64 p0.At, .int .i64 p0.E], p0t, (0, 0)⟩ :: []) (fun w => True) (fun v D => v = .int .u64 r1 ∧ D = fun F => (⟨p0b, [.string ⟨r0.S.toArray⟩, .int .i64 r0.At, .int .i64 r0.E], p0t, (0, 0)⟩ :: F)) := by
  unfold m_hindcastref02_Reader_Var at h
  refine sp_of_wc Tryd.func52 rfl Tryd.ntmps52 rfl rfl (fun w0 hR => ?_)
  refine wc_seq ?_
  refine wc_region ?_
  refine wl_pure tt_ok rfl rfl ?_
  refine wl_nil ?_
  refine wx_then ?_
  refine wc_seq ?_
  refine wc_region ?_
  refine wl_pure tt_ok rfl rfl ?_
  refine wl_nil ?_
  refine wx_then ?_
  refine wc_seq ?_
  refine wc_region ?_
  refine wl_pure tt_ok rfl rfl ?_
  refine wl_nil ?_
  refine wx_then ?_
  refine wc_seq ?_
  refine wc_seq ?_
  refine wc_region ?_
  refine wl_pure tt_ok rfl rfl ?_
  refine wl_nil ?_
  refine wx_then ?_
  refine wc_block ?_
  replace h := bsome h; obtain ⟨o11, h, hl11⟩ := h
  refine wc_loop (fun m E L => ∃ (j11_3 : Int) (j11_4 : Int) (j11_5 : Int) (j11_p0 : T_hindcastref02_Reader), m_hindcastref02_Reader_Var_L10 F m j11_3 j11_4 j11_5 j11_p0 = some o11 ∧ E = [(0, .pointer (some ⟨p0b, 0, none⟩)), (2, .int .u64 (0 : Int)), (3, .int .u64 j11_3), (4, .int .u64 j11_4), (5, .int .i64 j11_5)] ∧ L = (⟨p0b, [.string ⟨j11_p0.S.toArray⟩, .int .i64 j11_p0.At, .int .i64 j11_p0.E], p0t, (0, 0)⟩ :: [])) F ⟨(0 : Int), (1 : Int), (1 : Int), p0, h, rfl, rfl⟩ (agree_cons rfl (agree_cons rfl (agree_cons rfl (agree_cons rfl (agree_cons rfl agree_nil))))) (pSub (pCons Sel.hc pNil)) ?_
  clear h
  rintro m11 _ _ ⟨j11_3, j11_4, j11_5, j11_p0, h, rfl, rfl⟩
  rcases m11 with _ | m11
  · rw [m_hindcastref02_Reader_Var_L10.eq_1] at h; cases h
  rw [m_hindcastref02_Reader_Var_L10.eq_2] at h
  refine wc_seq ?_
  refine wc_seq ?_
  refine wc_region ?_
  refine wl_pure tt_ok rfl rfl ?_
  refine wl_pure tt_ok rfl rfl ?_
  refine wl_pure (v := .pointer (some ⟨p0b, 2, none⟩)) tt_ok rfl rfl ?_
  refine wl_val (v := .int .i64 j11_p0.E) (val_load tt_ok rfl (List.Mem.head _) rfl) rfl ?_
  refine wl_pure (v := .bool (j11_p0.E == (0 : Int))) tt_ok rfl rfl ?_
  refine wl_nil ?_
  refine wx_then ?_
  refine wc_cond rfl (fun hc => ?_) (fun hc => ?_)
  · replace h := ct hc h
    refine wc_skip ?_
    refine wx_then ?_
    refine wc_seq ?_
    refine wc_block ?_
    refine wc_seq ?_
    refine wc_region ?_
    refine wl_pure tt_ok rfl rfl ?_
    replace h := bsome h; obtain ⟨⟨o15_0, v15⟩, x15, h⟩ := h; try dsimp only at h
    refine wl_cs Tryd.call50 rfl rfl rfl (s_sp (k_hindcastref02_Reader_Number x15) (pCons Sel.hc pNil) (fun _ _ => trivial)) rfl ?_
    rintro _ _ ⟨_, ⟨rfl, rfl⟩, rfl⟩
    refine wl_pure tt_ok rfl rfl ?_
    refine wl_nil ?_
    refine wx_then ?_
    refine wc_seq ?_
    refine wc_seq ?_
    refine wc_region ?_
    refine wl_pure tt_ok rfl rfl ?_
    refine wl_pure tt_ok rfl rfl ?_
    refine wl_pure (v := .pointer (some ⟨p0b, 2, none⟩)) tt_ok rfl rfl ?_
    refine wl_val (v := .int .i64 o15_0.E) (val_load tt_ok rfl (List.Mem.head _) rfl) rfl ?_
    refine wl_pure (v := .bool (o15_0.E != (0 : Int))) tt_ok rfl rfl ?_
    refine wl_nil ?_
    refine wx_then ?_
    refine wc_cond rfl (fun hc => ?_) (fun hc => ?_)
    · replace h := ct hc h
      refine wc_seq ?_
      refine wc_region ?_
      refine wl_pure tt_ok rfl rfl ?_
      refine wl_nil ?_
      refine wx_then ?_
      refine wc_ret ?_
      refine wx_then_ret ?_
      refine wx_block_ret ?_
      refine wx_then_ret ?_
      obtain rfl := Option.some.inj h
      have h := hl11; clear hl11; try dsimp only [orE_l, orE_r] at h
      refine wx_then_ret ?_
      refine wx_block_ret ?_
      refine wx_then_ret ?_
      simp only [Option.some.injEq, Prod.mk.injEq] at h
      obtain ⟨rfl, rfl⟩ := h
      exact wx_spD tt_ok (.inl rfl) Tryd.results52 (Res.tmp rfl Res.nil) ⟨rfl, rfl⟩ (fun F => by simp) (pSub (pCons Sel.hc pNil))
    replace h := cf hc h
    refine wc_skip ?_
    refine wx_then ?_
    refine wc_seq ?_
    refine wc_seq ?_
    refine wc_region ?_
    refine wl_pure tt_ok rfl rfl ?_
    refine wl_pure (v := .bool (j11_5 == (10 : Int))) tt_ok rfl rfl ?_
    refine wl_pure tt_ok rfl rfl ?_
    replace h := bsome h; obtain ⟨v26, h, hg26⟩ := h
    refine wl_split (t := 23) rfl (fun hc => ?_) (fun hc => ?_)
    · replace h := ct hc h
      refine wl_run rfl ?_
      refine wl_pure tt_ok rfl rfl ?_
      refine wl_run rfl ?_
      refine wl_pure (v := .bool (decide ((1 : Int) < v15))) tt_ok rfl rfl ?_
      simp only [Option.some.injEq, Prod.mk.injEq] at h
      obtain rfl := h
      have h := hg26; clear hg26
      refine wl_pure (v := .bool (decide ((1 : Int) < v15))) tt_ok rfl rfl ?_
      refine wl_nil ?_
      refine wx_then ?_
      refine wc_cond rfl (fun hc => ?_) (fun hc => ?_)
      · replace h := ct hc h
        refine wc_seq ?_
        refine wc_region ?_
        refine wl_pure tt_ok rfl rfl ?_
        replace h := bsome h; obtain ⟨o28_0, x28, h⟩ := h
        refine wl_cs Tryd.call69 rfl rfl rfl (s_sp (k_hindcastref02_Reader_fail x28) (pCons Sel.hc pNil) (fun _ _ => trivial)) rfl ?_
        rintro _ _ ⟨_, ⟨rfl, rfl⟩, rfl⟩
        refine wl_nil ?_
        refine wx_then ?_
        refine wc_seq ?_
        refine wc_region ?_
        refine wl_pure tt_ok rfl rfl ?_
        refine wl_nil ?_
        refine wx_then ?_
        refine wc_ret ?_
        refine wx_then_ret ?_
        refine wx_block_ret ?_
        refine wx_then_ret ?_
        obtain rfl := Option.some.inj h
        have h := hl11; clear hl11; try dsimp only [orE_l, orE_r] at h
        refine wx_then_ret ?_
        refine wx_block_ret ?_
        refine wx_then_ret ?_
        simp only [Option.some.injEq, Prod.mk.injEq] at h
        obtain ⟨rfl, rfl⟩ := h
        exact wx_spD tt_ok (.inl rfl) Tryd.results52 (Res.tmp rfl Res.nil) ⟨rfl, rfl⟩ (fun F => by simp) (pSub (pCons Sel.hc pNil))
      replace h := cf hc h
      refine wc_skip ?_
      refine wx_then ?_
      refine wc_seq ?_
      refine wc_seq ?_
      refine wc_region ?_
      refine wl_pure tt_ok rfl rfl ?_
      refine wl_pure (v := .bool (v15 == (0 : Int))) tt_ok rfl rfl ?_
      refine wl_pure tt_ok rfl rfl ?_
      replace h := bsome h; obtain ⟨v34, h, hg34⟩ := h
      refine wl_split (t := 31) rfl (fun hc => ?_) (fun hc => ?_)
      · replace h := ct hc h
        refine wl_run rfl ?_
        refine wl_pure tt_ok rfl rfl ?_
        refine wl_run rfl ?_
        refine wl_pure (v := .bool (decide ((1 : Int) < j11_5))) tt_ok rfl rfl ?_
        simp only [Option.some.injEq, Prod.mk.injEq] at h
        obtain rfl := h
        have h := hg34; clear hg34
        refine wl_pure (v := .bool (decide ((1 : Int) < j11_5))) tt_ok rfl rfl ?_
        refine wl_nil ?_
        refine wx_then ?_
        refine wc_cond rfl (fun hc => ?_) (fun hc => ?_)
        · replace h := ct hc h
          refine wc_seq ?_
          refine wc_region ?_
          refine wl_pure tt_ok rfl rfl ?_
          replace h := bsome h; obtain ⟨o36_0, x36, h⟩ := h
          refine wl_cs Tryd.call69 rfl rfl rfl (s_sp (k_hindcastref02_Reader_fail x36) (pCons Sel.hc pNil) (fun _ _ => trivial)) rfl ?_
          rintro _ _ ⟨_, ⟨rfl, rfl⟩, rfl⟩
          refine wl_nil ?_
          refine wx_then ?_
          refine wc_seq ?_
          refine wc_region ?_
          refine wl_pure tt_ok rfl rfl ?_
          refine wl_nil ?_
          refine wx_then ?_
          refine wc_ret ?_
          refine wx_then_ret ?_
          refine wx_block_ret ?_
          refine wx_then_ret ?_
          obtain rfl := Option.some.inj h
          have h := hl11; clear hl11; try dsimp only [orE_l, orE_r] at h
          refine wx_then_ret ?_
          refine wx_block_ret ?_
          refine wx_then_ret ?_
          simp only [Option.some.injEq, Prod.mk.injEq] at h
          obtain ⟨rfl, rfl⟩ := h
          exact wx_spD tt_ok (.inl rfl) Tryd.results52 (Res.tmp rfl Res.nil) ⟨rfl, rfl⟩ (fun F => by simp) (pSub (pCons Sel.hc pNil))
        replace h := cf hc h
        refine wc_skip ?_
        refine wx_then ?_
        refine wc_seq ?_
        refine wc_region ?_
        refine wl_pure tt_ok rfl rfl ?_
        refine wl_pure tt_ok rfl rfl ?_
        refine wl_pure (v := .int .u64 (Int.tmod v15 128)) tt_ok rfl rfl ?_
        refine wl_pure tt_ok rfl rfl ?_
        refine wl_pure (v := .int .u64 (IntKind.wrap .u64 ((Int.tmod v15 128) * j11_4))) tt_ok rfl rfl ?_
        refine wl_pure (v := .int .u64 (IntKind.wrap .u64 (j11_3 + (IntKind.wrap .u64 ((Int.tmod v15 128) * j11_4))))) tt_ok rfl rfl ?_
        refine wl_pure tt_ok rfl rfl ?_
        refine wl_nil ?_
        refine wx_then ?_
        refine wc_seq ?_
        refine wc_region ?_
        refine wl_pure tt_ok rfl rfl ?_
        refine wl_pure (v := .int .u64 (IntKind.wrap .u64 (j11_4 * (128 : Int)))) tt_ok rfl rfl ?_
        refine wl_pure tt_ok rfl rfl ?_
        refine wl_nil ?_
        refine wx_then ?_
        refine wc_seq ?_
        refine wc_region ?_
        refine wl_pure tt_ok rfl rfl ?_
        refine wl_pure (v := .bool (decide (v15 < (128 : Int)))) tt_ok rfl rfl ?_
        refine wl_nil ?_
        refine wx_then ?_
        refine wc_cond rfl (fun hc => ?_) (fun hc => ?_)
        · replace h := ct hc h
          refine wc_seq ?_
          refine wc_region ?_
          refine wl_pure tt_ok rfl rfl ?_
          refine wl_pure tt_ok rfl rfl ?_
          refine wl_nil ?_
          refine wx_then ?_
          refine wc_ret ?_
          refine wx_block_ret ?_
          refine wx_then_ret ?_
          obtain rfl := Option.some.inj h
          have h := hl11; clear hl11; try dsimp only [orE_l, orE_r] at h
          refine wx_then_ret ?_
          refine wx_block_ret ?_
          refine wx_then_ret ?_
          simp only [Option.some.injEq, Prod.mk.injEq] at h
          obtain ⟨rfl, rfl⟩ := h
          exact wx_spD tt_ok (.inl rfl) Tryd.results52 (Res.tmp rfl Res.nil) ⟨rfl, rfl⟩ (fun F => by simp) (pSub (pCons Sel.hc pNil))
        replace h := cf hc h
        refine wc_skip ?_
        refine wx_block ?_
        refine wx_then ?_
        refine wc_region ?_
        refine wl_pure tt_ok rfl rfl ?_
        refine wl_pure (v := .int .i64 (IntKind.wrap .i64 (j11_5 + (1 : Int)))) tt_ok rfl rfl ?_
        refine wl_pure tt_ok rfl rfl ?_
        refine wl_nil ?_
        exact wx_round m11 (Nat.lt_succ_self m11) ⟨(IntKind.wrap .u64 (j11_3 + (IntKind.wrap .u64 ((Int.tmod v15 128) * j11_4)))), (IntKind.wrap .u64 (j11_4 * (128 : Int))), (IntKind.wrap .i64 (j11_5 + (1 : Int))), o15_0, h, rfl, rfl⟩ (agree_cons rfl (agree_cons rfl (agree_cons rfl (agree_cons rfl (agree_cons rfl agree_nil))))) (pSub (pCons Sel.hc pNil))
      replace h := cf hc h
      refine wl_skip rfl rfl ?_
      refine wl_skip rfl rfl ?_
      simp only [Option.some.injEq, Prod.mk.injEq] at h
      obtain rfl := h
      have h := hg34; clear hg34
      refine wl_pure (v := .bool false) tt_ok rfl rfl ?_
      refine wl_nil ?_
      refine wx_then ?_
      replace h := cf rfl h
      refine wc_cond_false rfl ?_
      refine wc_skip ?_
      refine wx_then ?_
      refine wc_seq ?_
      refine wc_region ?_
      refine wl_pure tt_ok rfl rfl ?_
      refine wl_pure tt_ok rfl rfl ?_
      refine wl_pure (v := .int .u64 (Int.tmod v15 128)) tt_ok rfl rfl ?_
      refine wl_pure tt_ok rfl rfl ?_
      refine wl_pure (v := .int .u64 (IntKind.wrap .u64 ((Int.tmod v15 128) * j11_4))) tt_ok rfl rfl ?_
      refine wl_pure (v := .int .u64 (IntKind.wrap .u64 (j11_3 + (IntKind.wrap .u64 ((Int.tmod v15 128) * j11_4))))) tt_ok rfl rfl ?_
      refine wl_pure tt_ok rfl rfl ?_
      refine wl_nil ?_
      refine wx_then ?_
      refine wc_seq ?_
      refine wc_region ?_
      refine wl_pure tt_ok rfl rfl ?_
      refine wl_pure (v := .int .u64 (IntKind.wrap .u64 (j11_4 * (128 : Int)))) tt_ok rfl rfl ?_
      refine wl_pure tt_ok rfl rfl ?_
      refine wl_nil ?_
      refine wx_then ?_
      refine wc_seq ?_
      refine wc_region ?_
      refine wl_pure tt_ok rfl rfl ?_
      refine wl_pure (v := .bool (decide (v15 < (128 : Int)))) tt_ok rfl rfl ?_
      refine wl_nil ?_
      refine wx_then ?_
      refine wc_cond rfl (fun hc => ?_) (fun hc => ?_)
      · replace h := ct hc h
        refine wc_seq ?_
        refine wc_region ?_
        refine wl_pure tt_ok rfl rfl ?_
        refine wl_pure tt_ok rfl rfl ?_
        refine wl_nil ?_
        refine wx_then ?_
        refine wc_ret ?_
        refine wx_block_ret ?_
        refine wx_then_ret ?_
        obtain rfl := Option.some.inj h
        have h := hl11; clear hl11; try dsimp only [orE_l, orE_r] at h
        refine wx_then_ret ?_
        refine wx_block_ret ?_
        refine wx_then_ret ?_
        simp only [Option.some.injEq, Prod.mk.injEq] at h
        obtain ⟨rfl, rfl⟩ := h
        exact wx_spD tt_ok (.inl rfl) Tryd.results52 (Res.tmp rfl Res.nil) ⟨rfl, rfl⟩ (fun F => by simp) (pSub (pCons Sel.hc pNil))
      replace h := cf hc h
      refine wc_skip ?_
      refine wx_block ?_
      refine wx_then ?_
      refine wc_region ?_
      refine wl_pure tt_ok rfl rfl ?_
      refine wl_pure (v := .int .i64 (IntKind.wrap .i64 (j11_5 + (1 : Int)))) tt_ok rfl rfl ?_
      refine wl_pure tt_ok rfl rfl ?_
      refine wl_nil ?_
      exact wx_round m11 (Nat.lt_succ_self m11) ⟨(IntKind.wrap .u64 (j11_3 + (IntKind.wrap .u64 ((Int.tmod v15 128) * j11_4)))), (IntKind.wrap .u64 (j11_4 * (128 : Int))), (IntKind.wrap .i64 (j11_5 + (1 : Int))), o15_0, h, rfl, rfl⟩ (agree_cons rfl (agree_cons rfl (agree_cons rfl (agree_cons rfl (agree_cons rfl agree_nil))))) (pSub (pCons Sel.hc pNil))
    replace h := cf hc h
    refine wl_skip rfl rfl ?_
    refine wl_skip rfl rfl ?_
    simp only [Option.some.injEq, Prod.mk.injEq] at h
    obtain rfl := h
    have h := hg26; clear hg26
    refine wl_pure (v := .bool false) tt_ok rfl rfl ?_
    refine wl_nil ?_
    refine wx_then ?_
    replace h := cf rfl h
    refine wc_cond_false rfl ?_
    refine wc_skip ?_
    refine wx_then ?_
    refine wc_seq ?_
    refine wc_seq ?_
    refine wc_region ?_
    refine wl_pure tt_ok rfl rfl ?_
    refine wl_pure (v := .bool (v15 == (0 : Int))) tt_ok rfl rfl ?_
    refine wl_pure tt_ok rfl rfl ?_
    replace h := bsome h; obtain ⟨v34, h, hg34⟩ := h
    refine wl_split (t := 31) rfl (fun hc => ?_) (fun hc => ?_)
    · replace h := ct hc h
      refine wl_run rfl ?_
      refine wl_pure tt_ok rfl rfl ?_
      refine wl_run rfl ?_
      refine wl_pure (v := .bool (decide ((1 : Int) < j11_5))) tt_ok rfl rfl ?_
      simp only [Option.some.injEq, Prod.mk.injEq] at h
      obtain rfl := h
      have h := hg34; clear hg34
      refine wl_pure (v := .bool (decide ((1 : Int) < j11_5))) tt_ok rfl rfl ?_
      refine wl_nil ?_
      refine wx_then ?_
      refine wc_cond rfl (fun hc => ?_) (fun hc => ?_)
      · replace h := ct hc h
        refine wc_seq ?_
        refine wc_region ?_
        refine wl_pure tt_ok rfl rfl ?_
        replace h := bsome h; obtain ⟨o36_0, x36, h⟩ := h
        refine wl_cs Tryd.call69 rfl rfl rfl (s_sp (k_hindcastref02_Reader_fail x36) (pCons Sel.hc pNil) (fun _ _ => trivial)) rfl ?_
        rintro _ _ ⟨_, ⟨rfl, rfl⟩, rfl⟩
        refine wl_nil ?_
        refine wx_then ?_
        refine wc_seq ?_
        refine wc_region ?_
        refine wl_pure tt_ok rfl rfl ?_
        refine wl_nil ?_
        refine wx_then ?_
        refine wc_ret ?_
        refine wx_then_ret ?_
        refine wx_block_ret ?_
        refine wx_then_ret ?_
        obtain rfl := Option.some.inj h
        have h := hl11; clear hl11; try dsimp only [orE_l, orE_r] at h
        refine wx_then_ret ?_
        refine wx_block_ret ?_
        refine wx_then_ret ?_
        simp only [Option.some.injEq, Prod.mk.injEq] at h
        obtain ⟨rfl, rfl⟩ := h
        exact wx_spD tt_ok (.inl rfl) Tryd.results52 (Res.tmp rfl Res.nil) ⟨rfl, rfl⟩ (fun F => by simp) (pSub (pCons Sel.hc pNil))
      replace h := cf hc h
      refine wc_skip ?_
      refine wx_then ?_
      refine wc_seq ?_
      refine wc_region ?_
      refine wl_pure tt_ok rfl rfl ?_
      refine wl_pure tt_ok rfl rfl ?_
      refine wl_pure (v := .int .u64 (Int.tmod v15 128)) tt_ok rfl rfl ?_
      refine wl_pure tt_ok rfl rfl ?_
      refine wl_pure (v := .int .u64 (IntKind.wrap .u64 ((Int.tmod v15 128) * j11_4))) tt_ok rfl rfl ?_
      refine wl_pure (v := .int .u64 (IntKind.wrap .u64 (j11_3 + (IntKind.wrap .u64 ((Int.tmod v15 128) * j11_4))))) tt_ok rfl rfl ?_
      refine wl_pure tt_ok rfl rfl ?_
      refine wl_nil ?_
      refine wx_then ?_
      refine wc_seq ?_
      refine wc_region ?_
      refine wl_pure tt_ok rfl rfl ?_
      refine wl_pure (v := .int .u64 (IntKind.wrap .u64 (j11_4 * (128 : Int)))) tt_ok rfl rfl ?_
      refine wl_pure tt_ok rfl rfl ?_
      refine wl_nil ?_
      refine wx_then ?_
      refine wc_seq ?_
      refine wc_region ?_
      refine wl_pure tt_ok rfl rfl ?_
      refine wl_pure (v := .bool (decide (v15 < (128 : Int)))) tt_ok rfl rfl ?_
      refine wl_nil ?_
      refine wx_then ?_
      refine wc_cond rfl (fun hc => ?_) (fun hc => ?_)
      · replace h := ct hc h
        refine wc_seq ?_
        refine wc_region ?_
        refine wl_pure tt_ok rfl rfl ?_
        refine wl_pure tt_ok rfl rfl ?_
        refine wl_nil ?_
        refine wx_then ?_
        refine wc_ret ?_
        refine wx_block_ret ?_
        refine wx_then_ret ?_
        obtain rfl := Option.some.inj h
        have h := hl11; clear hl11; try dsimp only [orE_l, orE_r] at h
        refine wx_then_ret ?_
        refine wx_block_ret ?_
        refine wx_then_ret ?_
        simp only [Option.some.injEq, Prod.mk.injEq] at h
        obtain ⟨rfl, rfl⟩ := h
        exact wx_spD tt_ok (.inl rfl) Tryd.results52 (Res.tmp rfl Res.nil) ⟨rfl, rfl⟩ (fun F => by simp) (pSub (pCons Sel.hc pNil))
      replace h := cf hc h
      refine wc_skip ?_
      refine wx_block ?_
      refine wx_then ?_
      refine wc_region ?_
      refine wl_pure tt_ok rfl rfl ?_
      refine wl_pure (v := .int .i64 (IntKind.wrap .i64 (j11_5 + (1 : Int)))) tt_ok rfl rfl ?_
      refine wl_pure tt_ok rfl rfl ?_
      refine wl_nil ?_
      exact wx_round m11 (Nat.lt_succ_self m11) ⟨(IntKind.wrap .u64 (j11_3 + (IntKind.wrap .u64 ((Int.tmod v15 128) * j11_4)))), (IntKind.wrap .u64 (j11_4 * (128 : Int))), (IntKind.wrap .i64 (j11_5 + (1 : Int))), o15_0, h, rfl, rfl⟩ (agree_cons rfl (agree_cons rfl (agree_cons rfl (agree_cons rfl (agree_cons rfl agree_nil))))) (pSub (pCons Sel.hc pNil))
    replace h := cf hc h
    refine wl_skip rfl rfl ?_
    refine wl_skip rfl rfl ?_
    simp only [Option.some.injEq, Prod.mk.injEq] at h
    obtain rfl := h
    have h := hg34; clear hg34
    refine wl_pure (v := .bool false) tt_ok rfl rfl ?_
    refine wl_nil ?_
    refine wx_then ?_
    replace h := cf rfl h
    refine wc_cond_false rfl ?_
    refine wc_skip ?_
    refine wx_then ?_
    refine wc_seq ?_
    refine wc_region ?_
    refine wl_pure tt_ok rfl rfl ?_
    refine wl_pure tt_ok rfl rfl ?_
    refine wl_pure (v := .int .u64 (Int.tmod v15 128)) tt_ok rfl rfl ?_
    refine wl_pure tt_ok rfl rfl ?_
    refine wl_pure (v := .int .u64 (IntKind.wrap .u64 ((Int.tmod v15 128) * j11_4))) tt_ok rfl rfl ?_
    refine wl_pure (v := .int .u64 (IntKind.wrap .u64 (j11_3 + (IntKind.wrap .u64 ((Int.tmod v15 128) * j11_4))))) tt_ok rfl rfl ?_
    refine wl_pure tt_ok rfl rfl ?_
    refine wl_nil ?_
    refine wx_then ?_
    refine wc_seq ?_
    refine wc_region ?_
    refine wl_pure tt_ok rfl rfl ?_
    refine wl_pure (v := .int .u64 (IntKind.wrap .u64 (j11_4 * (128 : Int)))) tt_ok rfl rfl ?_
    refine wl_pure tt_ok rfl rfl ?_
    refine wl_nil ?_
    refine wx_then ?_
    refine wc_seq ?_
    refine wc_region ?_
    refine wl_pure tt_ok rfl rfl ?_
    refine wl_pure (v := .bool (decide (v15 < (128 : Int)))) tt_ok rfl rfl ?_
    refine wl_nil ?_
    refine wx_then ?_
    refine wc_cond rfl (fun hc => ?_) (fun hc => ?_)
    · replace h := ct hc h
      refine wc_seq ?_
      refine wc_region ?_
      refine wl_pure tt_ok rfl rfl ?_
      refine wl_pure tt_ok rfl rfl ?_
      refine wl_nil ?_
      refine wx_then ?_
      refine wc_ret ?_
      refine wx_block_ret ?_
      refine wx_then_ret ?_
      obtain rfl := Option.some.inj h
      have h := hl11; clear hl11; try dsimp only [orE_l, orE_r] at h
      refine wx_then_ret ?_
      refine wx_block_ret ?_
      refine wx_then_ret ?_
      simp only [Option.some.injEq, Prod.mk.injEq] at h
      obtain ⟨rfl, rfl⟩ := h
      exact wx_spD tt_ok (.inl rfl) Tryd.results52 (Res.tmp rfl Res.nil) ⟨rfl, rfl⟩ (fun F => by simp) (pSub (pCons Sel.hc pNil))
    replace h := cf hc h
    refine wc_skip ?_
    refine wx_block ?_
    refine wx_then ?_
    refine wc_region ?_
    refine wl_pure tt_ok rfl rfl ?_
    refine wl_pure (v := .int .i64 (IntKind.wrap .i64 (j11_5 + (1 : Int)))) tt_ok rfl rfl ?_
    refine wl_pure tt_ok rfl rfl ?_
    refine wl_nil ?_
    exact wx_round m11 (Nat.lt_succ_self m11) ⟨(IntKind.wrap .u64 (j11_3 + (IntKind.wrap .u64 ((Int.tmod v15 128) * j11_4)))), (IntKind.wrap .u64 (j11_4 * (128 : Int))), (IntKind.wrap .i64 (j11_5 + (1 : Int))), o15_0, h, rfl, rfl⟩ (agree_cons rfl (agree_cons rfl (agree_cons rfl (agree_cons rfl (agree_cons rfl agree_nil))))) (pSub (pCons Sel.hc pNil))
  replace h := cf hc h
  refine wc_exit ?_
  refine wx_then_exit ?_
  obtain rfl := Option.some.inj h
  have h := hl11; clear hl11; try dsimp only [orE_l, orE_r] at h
  refine wx_then_exit ?_
  refine wx_block_exit ?_
  refine wx_then ?_
  refine wc_seq ?_
  refine wc_region ?_
  refine wl_pure tt_ok rfl rfl ?_
  refine wl_nil ?_
  refine wx_then ?_
  refine wc_ret ?_
  simp only [Option.some.injEq, Prod.mk.injEq] at h
  obtain ⟨rfl, rfl⟩ := h
  exact wx_spD tt_ok (.inl rfl) Tryd.results52 (Res.tmp rfl Res.nil) ⟨rfl, rfl⟩ (fun F => by simp) (pSub (pCons Sel.hc pNil))

theorem k_hindcastref02_Reader_Rest {F : Nat} {p0 : T_hindcastref02_Reader} {p0b p0t : Nat} {r0 : (List UInt8)} (h : m_hindcastref02_Reader_Rest F p0 = some r0) :
    Rd2 Tryd.prog 53 [.pointer (some ⟨p0b, 0, none⟩)] (⟨p0b, [.string ⟨p0.S.toArray⟩, .int .i64 p0.At, .int .i64 p0.E], p0t, (0, 0)⟩ :: []) (fun w => True) (.string ⟨r0.toArray⟩) := by
  unfold m_hindcastref02_Reader_Rest at h
  refine sp_of_wc Tryd.func53 rfl Tryd.ntmps53 rfl rfl (fun w0 hR => ?_)
  refine wc_seq ?_
  refine wc_region ?_
  refine wl_pure tt_ok rfl rfl ?_
  refine wl_nil ?_
  refine wx_then ?_
  refine wc_seq ?_
  refine wc_seq ?_
  refine wc_region ?_
  refine wl_pure tt_ok rfl rfl ?_
  refine wl_pure tt_ok rfl rfl ?_
  refine wl_pure (v := .pointer (some ⟨p0b, 2, none⟩)) tt_ok rfl rfl ?_
  refine wl_val (v := .int .i64 p0.E) (val_load tt_ok rfl (List.Mem.head _) rfl) rfl ?_
  refine wl_pure (v := .bool (p0.E != (0 : Int))) tt_ok rfl rfl ?_
  refine wl_nil ?_
  refine wx_then ?_
  refine wc_cond rfl (fun hc => ?_) (fun hc => ?_)
  · replace h := ct hc h
    refine wc_seq ?_
    refine wc_region ?_
    refine wl_pure tt_ok rfl rfl ?_
    refine wl_nil ?_
    refine wx_then ?_
    refine wc_ret ?_
    refine wx_then_ret ?_
    simp only [Option.some.injEq] at h
    obtain rfl := h
    exact wx_rd tt_ok (.inl rfl) Tryd.results53 (Res.tmp rfl Res.nil) (pSub (pCons Sel.hc pNil)) rfl
  replace h := cf hc h
  refine wc_skip ?_
  refine wx_then ?_
  refine wc_seq ?_
  refine wc_quiet (by kernel_rfl) (by kernel_rfl) ?_
  refine wq_pure tt_ok rfl rfl ?_
  refine wq_pure tt_ok rfl rfl ?_
  refine wq_pure (v := .pointer (some ⟨p0b, 0, none⟩)) tt_ok rfl rfl ?_
  refine wq_val (v := .string ⟨p0.S.toArray⟩) (val_load tt_ok rfl (List.Mem.head _) rfl) rfl ?_
  refine wq_pure tt_ok rfl rfl ?_
  refine wq_pure tt_ok rfl rfl ?_
  refine wq_pure (v := .pointer (some ⟨p0b, 1, none⟩)) tt_ok rfl rfl ?_
  refine wq_val (v := .int .i64 p0.At) (val_load tt_ok rfl (List.Mem.head _) rfl) rfl ?_
  replace h := bsome h; obtain ⟨v16, x16, h⟩ := h
  refine wq_val (v := .string ⟨v16.toArray⟩) (val_ss tt_ok rfl rfl (.inr ⟨_, _, rfl, rfl⟩) (.inl ⟨rfl, rfl⟩) x16) rfl ?_
  refine wq_pure tt_ok rfl rfl ?_
  refine wq_nil ?_
  refine wx_then ?_
  refine wc_ret ?_
  simp only [Option.some.injEq] at h
  obtain rfl := h
  exact wx_rd tt_ok (.inl rfl) Tryd.results53 (Res.tmp rfl Res.nil) (pSub (pCons Sel.hc pNil)) rfl

theorem k_hindcastref08_in {F : Nat} {p0 : Int} {p1 : Int} {p2 : Int} {r0 : Bool} (h : m_hindcastref08_in F p0 p1 p2 = some r0) :
    Pf Tryd.prog 58 [.int .i32 p0, .int .i32 p1, .int .i32 p2] (fun w => True) (.bool r0) := by
  unfold m_hindcastref08_in at h
  refine pf_of_wc Tryd.func58 rfl Tryd.ntmps58 rfl rfl (fun w0 hR => ?_)
  refine wc_seq ?_
  refine wc_region ?_
  refine wl_pure tt_ok rfl rfl ?_
  refine wl_nil ?_
  refine wx_then ?_
  refine wc_seq ?_
  refine wc_region ?_
  refine wl_pure tt_ok rfl rfl ?_
  refine wl_pure tt_ok rfl rfl ?_
  refine wl_pure (v := .bool (decide (p1 ≤ p0))) tt_ok rfl rfl ?_
  refine wl_pure tt_ok rfl rfl ?_
  replace h := bsome h; obtain ⟨v14, h, hg14⟩ := h
  refine wl_split (t := 10) rfl (fun hc => ?_) (fun hc => ?_)
  · replace h := ct hc h
    refine wl_run rfl ?_
    refine wl_pure tt_ok rfl rfl ?_
    refine wl_run rfl ?_
    refine wl_pure tt_ok rfl rfl ?_
    refine wl_run rfl ?_
    refine wl_pure (v := .bool (decide (p0 ≤ p2))) tt_ok rfl rfl ?_
    simp only [Option.some.injEq, Prod.mk.injEq] at h
    obtain rfl := h
    have h := hg14; clear hg14
    refine wl_pure (v := .bool (decide (p0 ≤ p2))) tt_ok rfl rfl ?_
    refine wl_pure tt_ok rfl rfl ?_
    refine wl_nil ?_
    refine wx_then ?_
    refine wc_ret ?_
    simp only [Option.some.injEq] at h
    obtain rfl := h
    exact wx_pf tt_ok (.inl rfl) Tryd.results58 (Res.tmp rfl Res.nil) rfl
  replace h := cf hc h
  refine wl_skip rfl rfl ?_
  refine wl_skip rfl rfl ?_
  refine wl_skip rfl rfl ?_
  simp only [Option.some.injEq, Prod.mk.injEq] at h
  obtain rfl := h
  have h := hg14; clear hg14
  refine wl_pure (v := .bool false) tt_ok rfl rfl ?_
  refine wl_pure tt_ok rfl rfl ?_
  refine wl_nil ?_
  refine wx_then ?_
  refine wc_ret ?_
  simp only [Option.some.injEq] at h
  obtain rfl := h
  exact wx_pf tt_ok (.inl rfl) Tryd.results58 (Res.tmp rfl Res.nil) rfl

theorem k_hindcastref08_Player {F : Nat} {p0 : T_api_Player} {r0 : Bool} (h : m_hindcastref08_Player F p0 = some r0) :
    Pf Tryd.prog 30 [.agg #[.int .i32 p0.X, .int .i32 p0.Y, .int .i32 p0.VX, .int .i32 p0.VY, .int .u8 p0.Health, .int .u8 p0.Cool, .int .u8 p0.Face]] (fun w => True) (.bool r0) := by
  unfold m_hindcastref08_Player at h
  refine pf_of_wc Tryd.func30 rfl Tryd.ntmps30 rfl rfl (fun w0 hR => ?_)
  refine wc_seq ?_
  refine wc_region ?_
  refine wl_box rfl rfl rfl (fun b1 => ?_)
  refine wl_pure tt_ok rfl rfl ?_
  refine wl_nil ?_
  refine wx_then ?_
  refine wc_seq ?_
  refine wc_region ?_
  refine wl_pure (v := .pointer (some ⟨b1, 0, none⟩)) tt_ok rfl rfl ?_
  refine wl_val (v := .int .i32 p0.X) (val_load tt_ok rfl (List.Mem.head _) rfl) rfl ?_
  replace h := bsome h; obtain ⟨v5, x5, h⟩ := h
  refine wl_cq Tryd.call58 rfl rfl rfl (q_pf (k_hindcastref08_in x5) (fun _ _ => trivial)) rfl ?_
  refine wl_pure tt_ok rfl rfl ?_
  replace h := bsome h; obtain ⟨v10, h, hg10⟩ := h
  refine wl_split (t := 6) rfl (fun hc => ?_) (fun hc => ?_)
  · replace h := ct hc h
    refine wl_run rfl ?_
    refine wl_pure (v := .pointer (some ⟨b1, 1, none⟩)) tt_ok rfl rfl ?_
    refine wl_run rfl ?_
    refine wl_val (v := .int .i32 p0.Y) (val_load tt_ok rfl (List.Mem.head _) rfl) rfl ?_
    replace h := bsome h; obtain ⟨v9, x9, h⟩ := h
    refine wl_run rfl ?_
    refine wl_cq Tryd.call58 rfl rfl rfl (q_pf (k_hindcastref08_in x9) (fun _ _ => trivial)) rfl ?_
    simp only [Option.some.injEq, Prod.mk.injEq] at h
    obtain rfl := h
    have h := hg10; clear hg10
    refine wl_pure (v := .bool v9) tt_ok rfl rfl ?_
    refine wl_pure tt_ok rfl rfl ?_
    replace h := bsome h; obtain ⟨v15, h, hg15⟩ := h
    refine wl_split (t := 11) rfl (fun hc => ?_) (fun hc => ?_)
    · replace h := ct hc h
      refine wl_run rfl ?_
      refine wl_pure (v := .pointer (some ⟨b1, 2, none⟩)) tt_ok rfl rfl ?_
      refine wl_run rfl ?_
      refine wl_val (v := .int .i32 p0.VX) (val_load tt_ok rfl (List.Mem.head _) rfl) rfl ?_
      replace h := bsome h; obtain ⟨v14, x14, h⟩ := h
      refine wl_run rfl ?_
      refine wl_cq Tryd.call58 rfl rfl rfl (q_pf (k_hindcastref08_in x14) (fun _ _ => trivial)) rfl ?_
      simp only [Option.some.injEq, Prod.mk.injEq] at h
      obtain rfl := h
      have h := hg15; clear hg15
      refine wl_pure (v := .bool v14) tt_ok rfl rfl ?_
      refine wl_pure tt_ok rfl rfl ?_
      replace h := bsome h; obtain ⟨v20, h, hg20⟩ := h
      refine wl_split (t := 16) rfl (fun hc => ?_) (fun hc => ?_)
      · replace h := ct hc h
        refine wl_run rfl ?_
        refine wl_pure (v := .pointer (some ⟨b1, 3, none⟩)) tt_ok rfl rfl ?_
        refine wl_run rfl ?_
        refine wl_val (v := .int .i32 p0.VY) (val_load tt_ok rfl (List.Mem.head _) rfl) rfl ?_
        replace h := bsome h; obtain ⟨v19, x19, h⟩ := h
        refine wl_run rfl ?_
        refine wl_cq Tryd.call58 rfl rfl rfl (q_pf (k_hindcastref08_in x19) (fun _ _ => trivial)) rfl ?_
        simp only [Option.some.injEq, Prod.mk.injEq] at h
        obtain rfl := h
        have h := hg20; clear hg20
        refine wl_pure (v := .bool v19) tt_ok rfl rfl ?_
        refine wl_pure tt_ok rfl rfl ?_
        replace h := bsome h; obtain ⟨v25, h, hg25⟩ := h
        refine wl_split (t := 21) rfl (fun hc => ?_) (fun hc => ?_)
        · replace h := ct hc h
          refine wl_run rfl ?_
          refine wl_pure (v := .pointer (some ⟨b1, 4, none⟩)) tt_ok rfl rfl ?_
          refine wl_run rfl ?_
          refine wl_val (v := .int .u8 p0.Health) (val_load tt_ok rfl (List.Mem.head _) rfl) rfl ?_
          refine wl_run rfl ?_
          refine wl_pure (v := .bool (decide ((1 : Int) ≤ p0.Health))) tt_ok rfl rfl ?_
          simp only [Option.some.injEq, Prod.mk.injEq] at h
          obtain rfl := h
          have h := hg25; clear hg25
          refine wl_pure (v := .bool (decide ((1 : Int) ≤ p0.Health))) tt_ok rfl rfl ?_
          refine wl_pure tt_ok rfl rfl ?_
          replace h := bsome h; obtain ⟨v30, h, hg30⟩ := h
          refine wl_split (t := 26) rfl (fun hc => ?_) (fun hc => ?_)
          · replace h := ct hc h
            refine wl_run rfl ?_
            refine wl_pure (v := .pointer (some ⟨b1, 4, none⟩)) tt_ok rfl rfl ?_
            refine wl_run rfl ?_
            refine wl_val (v := .int .u8 p0.Health) (val_load tt_ok rfl (List.Mem.head _) rfl) rfl ?_
            refine wl_run rfl ?_
            refine wl_pure (v := .bool (decide (p0.Health ≤ (100 : Int)))) tt_ok rfl rfl ?_
            simp only [Option.some.injEq, Prod.mk.injEq] at h
            obtain rfl := h
            have h := hg30; clear hg30
            refine wl_pure (v := .bool (decide (p0.Health ≤ (100 : Int)))) tt_ok rfl rfl ?_
            refine wl_pure tt_ok rfl rfl ?_
            replace h := bsome h; obtain ⟨v35, h, hg35⟩ := h
            refine wl_split (t := 31) rfl (fun hc => ?_) (fun hc => ?_)
            · replace h := ct hc h
              refine wl_run rfl ?_
              refine wl_pure (v := .pointer (some ⟨b1, 5, none⟩)) tt_ok rfl rfl ?_
              refine wl_run rfl ?_
              refine wl_val (v := .int .u8 p0.Cool) (val_load tt_ok rfl (List.Mem.head _) rfl) rfl ?_
              refine wl_run rfl ?_
              refine wl_pure (v := .bool (decide (p0.Cool ≤ (30 : Int)))) tt_ok rfl rfl ?_
              simp only [Option.some.injEq, Prod.mk.injEq] at h
              obtain rfl := h
              have h := hg35; clear hg35
              refine wl_pure (v := .bool (decide (p0.Cool ≤ (30 : Int)))) tt_ok rfl rfl ?_
              refine wl_pure tt_ok rfl rfl ?_
              replace h := bsome h; obtain ⟨v40, h, hg40⟩ := h
              refine wl_split (t := 36) rfl (fun hc => ?_) (fun hc => ?_)
              · replace h := ct hc h
                refine wl_run rfl ?_
                refine wl_pure (v := .pointer (some ⟨b1, 6, none⟩)) tt_ok rfl rfl ?_
                refine wl_run rfl ?_
                refine wl_val (v := .int .u8 p0.Face) (val_load tt_ok rfl (List.Mem.head _) rfl) rfl ?_
                refine wl_run rfl ?_
                refine wl_pure (v := .bool (decide (p0.Face ≤ (3 : Int)))) tt_ok rfl rfl ?_
                simp only [Option.some.injEq, Prod.mk.injEq] at h
                obtain rfl := h
                have h := hg40; clear hg40
                refine wl_pure (v := .bool (decide (p0.Face ≤ (3 : Int)))) tt_ok rfl rfl ?_
                refine wl_pure tt_ok rfl rfl ?_
                refine wl_nil ?_
                refine wx_then ?_
                refine wc_ret ?_
                simp only [Option.some.injEq] at h
                obtain rfl := h
                exact wx_pf tt_ok (.inl rfl) Tryd.results30 (Res.tmp rfl Res.nil) rfl
              replace h := cf hc h
              refine wl_skip rfl rfl ?_
              refine wl_skip rfl rfl ?_
              refine wl_skip rfl rfl ?_
              simp only [Option.some.injEq, Prod.mk.injEq] at h
              obtain rfl := h
              have h := hg40; clear hg40
              refine wl_pure (v := .bool false) tt_ok rfl rfl ?_
              refine wl_pure tt_ok rfl rfl ?_
              refine wl_nil ?_
              refine wx_then ?_
              refine wc_ret ?_
              simp only [Option.some.injEq] at h
              obtain rfl := h
              exact wx_pf tt_ok (.inl rfl) Tryd.results30 (Res.tmp rfl Res.nil) rfl
            replace h := cf hc h
            refine wl_skip rfl rfl ?_
            refine wl_skip rfl rfl ?_
            refine wl_skip rfl rfl ?_
            simp only [Option.some.injEq, Prod.mk.injEq] at h
            obtain rfl := h
            have h := hg35; clear hg35
            refine wl_pure (v := .bool false) tt_ok rfl rfl ?_
            refine wl_pure tt_ok rfl rfl ?_
            replace h := bsome h; obtain ⟨v40, h, hg40⟩ := h
            replace h := cf rfl h
            refine wl_skip rfl rfl ?_
            refine wl_skip rfl rfl ?_
            refine wl_skip rfl rfl ?_
            simp only [Option.some.injEq, Prod.mk.injEq] at h
            obtain rfl := h
            have h := hg40; clear hg40
            refine wl_pure (v := .bool false) tt_ok rfl rfl ?_
            refine wl_pure tt_ok rfl rfl ?_
            refine wl_nil ?_
            refine wx_then ?_
            refine wc_ret ?_
            simp only [Option.some.injEq] at h
            obtain rfl := h
            exact wx_pf tt_ok (.inl rfl) Tryd.results30 (Res.tmp rfl Res.nil) rfl
          replace h := cf hc h
          refine wl_skip rfl rfl ?_
          refine wl_skip rfl rfl ?_
          refine wl_skip rfl rfl ?_
          simp only [Option.some.injEq, Prod.mk.injEq] at h
          obtain rfl := h
          have h := hg30; clear hg30
          refine wl_pure (v := .bool false) tt_ok rfl rfl ?_
          refine wl_pure tt_ok rfl rfl ?_
          replace h := bsome h; obtain ⟨v35, h, hg35⟩ := h
          replace h := cf rfl h
          refine wl_skip rfl rfl ?_
          refine wl_skip rfl rfl ?_
          refine wl_skip rfl rfl ?_
          simp only [Option.some.injEq, Prod.mk.injEq] at h
          obtain rfl := h
          have h := hg35; clear hg35
          refine wl_pure (v := .bool false) tt_ok rfl rfl ?_
          refine wl_pure tt_ok rfl rfl ?_
          replace h := bsome h; obtain ⟨v40, h, hg40⟩ := h
          replace h := cf rfl h
          refine wl_skip rfl rfl ?_
          refine wl_skip rfl rfl ?_
          refine wl_skip rfl rfl ?_
          simp only [Option.some.injEq, Prod.mk.injEq] at h
          obtain rfl := h
          have h := hg40; clear hg40
          refine wl_pure (v := .bool false) tt_ok rfl rfl ?_
          refine wl_pure tt_ok rfl rfl ?_
          refine wl_nil ?_
          refine wx_then ?_
          refine wc_ret ?_
          simp only [Option.some.injEq] at h
          obtain rfl := h
          exact wx_pf tt_ok (.inl rfl) Tryd.results30 (Res.tmp rfl Res.nil) rfl
        replace h := cf hc h
        refine wl_skip rfl rfl ?_
        refine wl_skip rfl rfl ?_
        refine wl_skip rfl rfl ?_
        simp only [Option.some.injEq, Prod.mk.injEq] at h
        obtain rfl := h
        have h := hg25; clear hg25
        refine wl_pure (v := .bool false) tt_ok rfl rfl ?_
        refine wl_pure tt_ok rfl rfl ?_
        replace h := bsome h; obtain ⟨v30, h, hg30⟩ := h
        replace h := cf rfl h
        refine wl_skip rfl rfl ?_
        refine wl_skip rfl rfl ?_
        refine wl_skip rfl rfl ?_
        simp only [Option.some.injEq, Prod.mk.injEq] at h
        obtain rfl := h
        have h := hg30; clear hg30
        refine wl_pure (v := .bool false) tt_ok rfl rfl ?_
        refine wl_pure tt_ok rfl rfl ?_
        replace h := bsome h; obtain ⟨v35, h, hg35⟩ := h
        replace h := cf rfl h
        refine wl_skip rfl rfl ?_
        refine wl_skip rfl rfl ?_
        refine wl_skip rfl rfl ?_
        simp only [Option.some.injEq, Prod.mk.injEq] at h
        obtain rfl := h
        have h := hg35; clear hg35
        refine wl_pure (v := .bool false) tt_ok rfl rfl ?_
        refine wl_pure tt_ok rfl rfl ?_
        replace h := bsome h; obtain ⟨v40, h, hg40⟩ := h
        replace h := cf rfl h
        refine wl_skip rfl rfl ?_
        refine wl_skip rfl rfl ?_
        refine wl_skip rfl rfl ?_
        simp only [Option.some.injEq, Prod.mk.injEq] at h
        obtain rfl := h
        have h := hg40; clear hg40
        refine wl_pure (v := .bool false) tt_ok rfl rfl ?_
        refine wl_pure tt_ok rfl rfl ?_
        refine wl_nil ?_
        refine wx_then ?_
        refine wc_ret ?_
        simp only [Option.some.injEq] at h
        obtain rfl := h
        exact wx_pf tt_ok (.inl rfl) Tryd.results30 (Res.tmp rfl Res.nil) rfl
      replace h := cf hc h
      refine wl_skip rfl rfl ?_
      refine wl_skip rfl rfl ?_
      refine wl_skip rfl rfl ?_
      simp only [Option.some.injEq, Prod.mk.injEq] at h
      obtain rfl := h
      have h := hg20; clear hg20
      refine wl_pure (v := .bool false) tt_ok rfl rfl ?_
      refine wl_pure tt_ok rfl rfl ?_
      replace h := bsome h; obtain ⟨v25, h, hg25⟩ := h
      replace h := cf rfl h
      refine wl_skip rfl rfl ?_
      refine wl_skip rfl rfl ?_
      refine wl_skip rfl rfl ?_
      simp only [Option.some.injEq, Prod.mk.injEq] at h
      obtain rfl := h
      have h := hg25; clear hg25
      refine wl_pure (v := .bool false) tt_ok rfl rfl ?_
      refine wl_pure tt_ok rfl rfl ?_
      replace h := bsome h; obtain ⟨v30, h, hg30⟩ := h
      replace h := cf rfl h
      refine wl_skip rfl rfl ?_
      refine wl_skip rfl rfl ?_
      refine wl_skip rfl rfl ?_
      simp only [Option.some.injEq, Prod.mk.injEq] at h
      obtain rfl := h
      have h := hg30; clear hg30
      refine wl_pure (v := .bool false) tt_ok rfl rfl ?_
      refine wl_pure tt_ok rfl rfl ?_
      replace h := bsome h; obtain ⟨v35, h, hg35⟩ := h
      replace h := cf rfl h
      refine wl_skip rfl rfl ?_
      refine wl_skip rfl rfl ?_
      refine wl_skip rfl rfl ?_
      simp only [Option.some.injEq, Prod.mk.injEq] at h
      obtain rfl := h
      have h := hg35; clear hg35
      refine wl_pure (v := .bool false) tt_ok rfl rfl ?_
      refine wl_pure tt_ok rfl rfl ?_
      replace h := bsome h; obtain ⟨v40, h, hg40⟩ := h
      replace h := cf rfl h
      refine wl_skip rfl rfl ?_
      refine wl_skip rfl rfl ?_
      refine wl_skip rfl rfl ?_
      simp only [Option.some.injEq, Prod.mk.injEq] at h
      obtain rfl := h
      have h := hg40; clear hg40
      refine wl_pure (v := .bool false) tt_ok rfl rfl ?_
      refine wl_pure tt_ok rfl rfl ?_
      refine wl_nil ?_
      refine wx_then ?_
      refine wc_ret ?_
      simp only [Option.some.injEq] at h
      obtain rfl := h
      exact wx_pf tt_ok (.inl rfl) Tryd.results30 (Res.tmp rfl Res.nil) rfl
    replace h := cf hc h
    refine wl_skip rfl rfl ?_
    refine wl_skip rfl rfl ?_
    refine wl_skip rfl rfl ?_
    simp only [Option.some.injEq, Prod.mk.injEq] at h
    obtain rfl := h
    have h := hg15; clear hg15
    refine wl_pure (v := .bool false) tt_ok rfl rfl ?_
    refine wl_pure tt_ok rfl rfl ?_
    replace h := bsome h; obtain ⟨v20, h, hg20⟩ := h
    replace h := cf rfl h
    refine wl_skip rfl rfl ?_
    refine wl_skip rfl rfl ?_
    refine wl_skip rfl rfl ?_
    simp only [Option.some.injEq, Prod.mk.injEq] at h
    obtain rfl := h
    have h := hg20; clear hg20
    refine wl_pure (v := .bool false) tt_ok rfl rfl ?_
    refine wl_pure tt_ok rfl rfl ?_
    replace h := bsome h; obtain ⟨v25, h, hg25⟩ := h
    replace h := cf rfl h
    refine wl_skip rfl rfl ?_
    refine wl_skip rfl rfl ?_
    refine wl_skip rfl rfl ?_
    simp only [Option.some.injEq, Prod.mk.injEq] at h
    obtain rfl := h
    have h := hg25; clear hg25
    refine wl_pure (v := .bool false) tt_ok rfl rfl ?_
    refine wl_pure tt_ok rfl rfl ?_
    replace h := bsome h; obtain ⟨v30, h, hg30⟩ := h
    replace h := cf rfl h
    refine wl_skip rfl rfl ?_
    refine wl_skip rfl rfl ?_
    refine wl_skip rfl rfl ?_
    simp only [Option.some.injEq, Prod.mk.injEq] at h
    obtain rfl := h
    have h := hg30; clear hg30
    refine wl_pure (v := .bool false) tt_ok rfl rfl ?_
    refine wl_pure tt_ok rfl rfl ?_
    replace h := bsome h; obtain ⟨v35, h, hg35⟩ := h
    replace h := cf rfl h
    refine wl_skip rfl rfl ?_
    refine wl_skip rfl rfl ?_
    refine wl_skip rfl rfl ?_
    simp only [Option.some.injEq, Prod.mk.injEq] at h
    obtain rfl := h
    have h := hg35; clear hg35
    refine wl_pure (v := .bool false) tt_ok rfl rfl ?_
    refine wl_pure tt_ok rfl rfl ?_
    replace h := bsome h; obtain ⟨v40, h, hg40⟩ := h
    replace h := cf rfl h
    refine wl_skip rfl rfl ?_
    refine wl_skip rfl rfl ?_
    refine wl_skip rfl rfl ?_
    simp only [Option.some.injEq, Prod.mk.injEq] at h
    obtain rfl := h
    have h := hg40; clear hg40
    refine wl_pure (v := .bool false) tt_ok rfl rfl ?_
    refine wl_pure tt_ok rfl rfl ?_
    refine wl_nil ?_
    refine wx_then ?_
    refine wc_ret ?_
    simp only [Option.some.injEq] at h
    obtain rfl := h
    exact wx_pf tt_ok (.inl rfl) Tryd.results30 (Res.tmp rfl Res.nil) rfl
  replace h := cf hc h
  refine wl_skip rfl rfl ?_
  refine wl_skip rfl rfl ?_
  refine wl_skip rfl rfl ?_
  simp only [Option.some.injEq, Prod.mk.injEq] at h
  obtain rfl := h
  have h := hg10; clear hg10
  refine wl_pure (v := .bool false) tt_ok rfl rfl ?_
  refine wl_pure tt_ok rfl rfl ?_
  replace h := bsome h; obtain ⟨v15, h, hg15⟩ := h
  replace h := cf rfl h
  refine wl_skip rfl rfl ?_
  refine wl_skip rfl rfl ?_
  refine wl_skip rfl rfl ?_
  simp only [Option.some.injEq, Prod.mk.injEq] at h
  obtain rfl := h
  have h := hg15; clear hg15
  refine wl_pure (v := .bool false) tt_ok rfl rfl ?_
  refine wl_pure tt_ok rfl rfl ?_
  replace h := bsome h; obtain ⟨v20, h, hg20⟩ := h
  replace h := cf rfl h
  refine wl_skip rfl rfl ?_
  refine wl_skip rfl rfl ?_
  refine wl_skip rfl rfl ?_
  simp only [Option.some.injEq, Prod.mk.injEq] at h
  obtain rfl := h
  have h := hg20; clear hg20
  refine wl_pure (v := .bool false) tt_ok rfl rfl ?_
  refine wl_pure tt_ok rfl rfl ?_
  replace h := bsome h; obtain ⟨v25, h, hg25⟩ := h
  replace h := cf rfl h
  refine wl_skip rfl rfl ?_
  refine wl_skip rfl rfl ?_
  refine wl_skip rfl rfl ?_
  simp only [Option.some.injEq, Prod.mk.injEq] at h
  obtain rfl := h
  have h := hg25; clear hg25
  refine wl_pure (v := .bool false) tt_ok rfl rfl ?_
  refine wl_pure tt_ok rfl rfl ?_
  replace h := bsome h; obtain ⟨v30, h, hg30⟩ := h
  replace h := cf rfl h
  refine wl_skip rfl rfl ?_
  refine wl_skip rfl rfl ?_
  refine wl_skip rfl rfl ?_
  simp only [Option.some.injEq, Prod.mk.injEq] at h
  obtain rfl := h
  have h := hg30; clear hg30
  refine wl_pure (v := .bool false) tt_ok rfl rfl ?_
  refine wl_pure tt_ok rfl rfl ?_
  replace h := bsome h; obtain ⟨v35, h, hg35⟩ := h
  replace h := cf rfl h
  refine wl_skip rfl rfl ?_
  refine wl_skip rfl rfl ?_
  refine wl_skip rfl rfl ?_
  simp only [Option.some.injEq, Prod.mk.injEq] at h
  obtain rfl := h
  have h := hg35; clear hg35
  refine wl_pure (v := .bool false) tt_ok rfl rfl ?_
  refine wl_pure tt_ok rfl rfl ?_
  replace h := bsome h; obtain ⟨v40, h, hg40⟩ := h
  replace h := cf rfl h
  refine wl_skip rfl rfl ?_
  refine wl_skip rfl rfl ?_
  refine wl_skip rfl rfl ?_
  simp only [Option.some.injEq, Prod.mk.injEq] at h
  obtain rfl := h
  have h := hg40; clear hg40
  refine wl_pure (v := .bool false) tt_ok rfl rfl ?_
  refine wl_pure tt_ok rfl rfl ?_
  refine wl_nil ?_
  refine wx_then ?_
  refine wc_ret ?_
  simp only [Option.some.injEq] at h
  obtain rfl := h
  exact wx_pf tt_ok (.inl rfl) Tryd.results30 (Res.tmp rfl Res.nil) rfl

theorem k_hindcastref08_Shot {F : Nat} {p0 : T_api_Shot} {r0 : Bool} (h : m_hindcastref08_Shot F p0 = some r0) :
    Pf Tryd.prog 31 [.agg #[.int .i32 p0.X, .int .i32 p0.Y, .int .i32 p0.VX, .int .i32 p0.VY, .int .u8 p0.Owner, .int .u8 p0.Life]] (fun w => True) (.bool r0) := by
  unfold m_hindcastref08_Shot at h
  refine pf_of_wc Tryd.func31 rfl Tryd.ntmps31 rfl rfl (fun w0 hR => ?_)
  refine wc_seq ?_
  refine wc_region ?_
  refine wl_box rfl rfl rfl (fun b1 => ?_)
  refine wl_pure tt_ok rfl rfl ?_
  refine wl_nil ?_
  refine wx_then ?_
  refine wc_seq ?_
  refine wc_region ?_
  refine wl_pure (v := .pointer (some ⟨b1, 0, none⟩)) tt_ok rfl rfl ?_
  refine wl_val (v := .int .i32 p0.X) (val_load tt_ok rfl (List.Mem.head _) rfl) rfl ?_
  replace h := bsome h; obtain ⟨v5, x5, h⟩ := h
  refine wl_cq Tryd.call58 rfl rfl rfl (q_pf (k_hindcastref08_in x5) (fun _ _ => trivial)) rfl ?_
  refine wl_pure tt_ok rfl rfl ?_
  replace h := bsome h; obtain ⟨v10, h, hg10⟩ := h
  refine wl_split (t := 6) rfl (fun hc => ?_) (fun hc => ?_)
  · replace h := ct hc h
    refine wl_run rfl ?_
    refine wl_pure (v := .pointer (some ⟨b1, 1, none⟩)) tt_ok rfl rfl ?_
    refine wl_run rfl ?_
    refine wl_val (v := .int .i32 p0.Y) (val_load tt_ok rfl (List.Mem.head _) rfl) rfl ?_
    replace h := bsome h; obtain ⟨v9, x9, h⟩ := h
    refine wl_run rfl ?_
    refine wl_cq Tryd.call58 rfl rfl rfl (q_pf (k_hindcastref08_in x9) (fun _ _ => trivial)) rfl ?_
    simp only [Option.some.injEq, Prod.mk.injEq] at h
    obtain rfl := h
    have h := hg10; clear hg10
    refine wl_pure (v := .bool v9) tt_ok rfl rfl ?_
    refine wl_pure tt_ok rfl rfl ?_
    replace h := bsome h; obtain ⟨v15, h, hg15⟩ := h
    refine wl_split (t := 11) rfl (fun hc => ?_) (fun hc => ?_)
    · replace h := ct hc h
      refine wl_run rfl ?_
      refine wl_pure (v := .pointer (some ⟨b1, 2, none⟩)) tt_ok rfl rfl ?_
      refine wl_run rfl ?_
      refine wl_val (v := .int .i32 p0.VX) (val_load tt_ok rfl (List.Mem.head _) rfl) rfl ?_
      replace h := bsome h; obtain ⟨v14, x14, h⟩ := h
      refine wl_run rfl ?_
      refine wl_cq Tryd.call58 rfl rfl rfl (q_pf (k_hindcastref08_in x14) (fun _ _ => trivial)) rfl ?_
      simp only [Option.some.injEq, Prod.mk.injEq] at h
      obtain rfl := h
      have h := hg15; clear hg15
      refine wl_pure (v := .bool v14) tt_ok rfl rfl ?_
      refine wl_pure tt_ok rfl rfl ?_
      replace h := bsome h; obtain ⟨v20, h, hg20⟩ := h
      refine wl_split (t := 16) rfl (fun hc => ?_) (fun hc => ?_)
      · replace h := ct hc h
        refine wl_run rfl ?_
        refine wl_pure (v := .pointer (some ⟨b1, 3, none⟩)) tt_ok rfl rfl ?_
        refine wl_run rfl ?_
        refine wl_val (v := .int .i32 p0.VY) (val_load tt_ok rfl (List.Mem.head _) rfl) rfl ?_
        replace h := bsome h; obtain ⟨v19, x19, h⟩ := h
        refine wl_run rfl ?_
        refine wl_cq Tryd.call58 rfl rfl rfl (q_pf (k_hindcastref08_in x19) (fun _ _ => trivial)) rfl ?_
        simp only [Option.some.injEq, Prod.mk.injEq] at h
        obtain rfl := h
        have h := hg20; clear hg20
        refine wl_pure (v := .bool v19) tt_ok rfl rfl ?_
        refine wl_pure tt_ok rfl rfl ?_
        replace h := bsome h; obtain ⟨v25, h, hg25⟩ := h
        refine wl_split (t := 21) rfl (fun hc => ?_) (fun hc => ?_)
        · replace h := ct hc h
          refine wl_run rfl ?_
          refine wl_pure (v := .pointer (some ⟨b1, 4, none⟩)) tt_ok rfl rfl ?_
          refine wl_run rfl ?_
          refine wl_val (v := .int .u8 p0.Owner) (val_load tt_ok rfl (List.Mem.head _) rfl) rfl ?_
          refine wl_run rfl ?_
          refine wl_pure (v := .bool (decide (p0.Owner ≤ (1 : Int)))) tt_ok rfl rfl ?_
          simp only [Option.some.injEq, Prod.mk.injEq] at h
          obtain rfl := h
          have h := hg25; clear hg25
          refine wl_pure (v := .bool (decide (p0.Owner ≤ (1 : Int)))) tt_ok rfl rfl ?_
          refine wl_pure tt_ok rfl rfl ?_
          replace h := bsome h; obtain ⟨v30, h, hg30⟩ := h
          refine wl_split (t := 26) rfl (fun hc => ?_) (fun hc => ?_)
          · replace h := ct hc h
            refine wl_run rfl ?_
            refine wl_pure (v := .pointer (some ⟨b1, 5, none⟩)) tt_ok rfl rfl ?_
            refine wl_run rfl ?_
            refine wl_val (v := .int .u8 p0.Life) (val_load tt_ok rfl (List.Mem.head _) rfl) rfl ?_
            refine wl_run rfl ?_
            refine wl_pure (v := .bool (decide ((1 : Int) ≤ p0.Life))) tt_ok rfl rfl ?_
            simp only [Option.some.injEq, Prod.mk.injEq] at h
            obtain rfl := h
            have h := hg30; clear hg30
            refine wl_pure (v := .bool (decide ((1 : Int) ≤ p0.Life))) tt_ok rfl rfl ?_
            refine wl_pure tt_ok rfl rfl ?_
            replace h := bsome h; obtain ⟨v35, h, hg35⟩ := h
            refine wl_split (t := 31) rfl (fun hc => ?_) (fun hc => ?_)
            · replace h := ct hc h
              refine wl_run rfl ?_
              refine wl_pure (v := .pointer (some ⟨b1, 5, none⟩)) tt_ok rfl rfl ?_
              refine wl_run rfl ?_
              refine wl_val (v := .int .u8 p0.Life) (val_load tt_ok rfl (List.Mem.head _) rfl) rfl ?_
              refine wl_run rfl ?_
              refine wl_pure (v := .bool (decide (p0.Life ≤ (40 : Int)))) tt_ok rfl rfl ?_
              simp only [Option.some.injEq, Prod.mk.injEq] at h
              obtain rfl := h
              have h := hg35; clear hg35
              refine wl_pure (v := .bool (decide (p0.Life ≤ (40 : Int)))) tt_ok rfl rfl ?_
              refine wl_pure tt_ok rfl rfl ?_
              refine wl_nil ?_
              refine wx_then ?_
              refine wc_ret ?_
              simp only [Option.some.injEq] at h
              obtain rfl := h
              exact wx_pf tt_ok (.inl rfl) Tryd.results31 (Res.tmp rfl Res.nil) rfl
            replace h := cf hc h
            refine wl_skip rfl rfl ?_
            refine wl_skip rfl rfl ?_
            refine wl_skip rfl rfl ?_
            simp only [Option.some.injEq, Prod.mk.injEq] at h
            obtain rfl := h
            have h := hg35; clear hg35
            refine wl_pure (v := .bool false) tt_ok rfl rfl ?_
            refine wl_pure tt_ok rfl rfl ?_
            refine wl_nil ?_
            refine wx_then ?_
            refine wc_ret ?_
            simp only [Option.some.injEq] at h
            obtain rfl := h
            exact wx_pf tt_ok (.inl rfl) Tryd.results31 (Res.tmp rfl Res.nil) rfl
          replace h := cf hc h
          refine wl_skip rfl rfl ?_
          refine wl_skip rfl rfl ?_
          refine wl_skip rfl rfl ?_
          simp only [Option.some.injEq, Prod.mk.injEq] at h
          obtain rfl := h
          have h := hg30; clear hg30
          refine wl_pure (v := .bool false) tt_ok rfl rfl ?_
          refine wl_pure tt_ok rfl rfl ?_
          replace h := bsome h; obtain ⟨v35, h, hg35⟩ := h
          replace h := cf rfl h
          refine wl_skip rfl rfl ?_
          refine wl_skip rfl rfl ?_
          refine wl_skip rfl rfl ?_
          simp only [Option.some.injEq, Prod.mk.injEq] at h
          obtain rfl := h
          have h := hg35; clear hg35
          refine wl_pure (v := .bool false) tt_ok rfl rfl ?_
          refine wl_pure tt_ok rfl rfl ?_
          refine wl_nil ?_
          refine wx_then ?_
          refine wc_ret ?_
          simp only [Option.some.injEq] at h
          obtain rfl := h
          exact wx_pf tt_ok (.inl rfl) Tryd.results31 (Res.tmp rfl Res.nil) rfl
        replace h := cf hc h
        refine wl_skip rfl rfl ?_
        refine wl_skip rfl rfl ?_
        refine wl_skip rfl rfl ?_
        simp only [Option.some.injEq, Prod.mk.injEq] at h
        obtain rfl := h
        have h := hg25; clear hg25
        refine wl_pure (v := .bool false) tt_ok rfl rfl ?_
        refine wl_pure tt_ok rfl rfl ?_
        replace h := bsome h; obtain ⟨v30, h, hg30⟩ := h
        replace h := cf rfl h
        refine wl_skip rfl rfl ?_
        refine wl_skip rfl rfl ?_
        refine wl_skip rfl rfl ?_
        simp only [Option.some.injEq, Prod.mk.injEq] at h
        obtain rfl := h
        have h := hg30; clear hg30
        refine wl_pure (v := .bool false) tt_ok rfl rfl ?_
        refine wl_pure tt_ok rfl rfl ?_
        replace h := bsome h; obtain ⟨v35, h, hg35⟩ := h
        replace h := cf rfl h
        refine wl_skip rfl rfl ?_
        refine wl_skip rfl rfl ?_
        refine wl_skip rfl rfl ?_
        simp only [Option.some.injEq, Prod.mk.injEq] at h
        obtain rfl := h
        have h := hg35; clear hg35
        refine wl_pure (v := .bool false) tt_ok rfl rfl ?_
        refine wl_pure tt_ok rfl rfl ?_
        refine wl_nil ?_
        refine wx_then ?_
        refine wc_ret ?_
        simp only [Option.some.injEq] at h
        obtain rfl := h
        exact wx_pf tt_ok (.inl rfl) Tryd.results31 (Res.tmp rfl Res.nil) rfl
      replace h := cf hc h
      refine wl_skip rfl rfl ?_
      refine wl_skip rfl rfl ?_
      refine wl_skip rfl rfl ?_
      simp only [Option.some.injEq, Prod.mk.injEq] at h
      obtain rfl := h
      have h := hg20; clear hg20
      refine wl_pure (v := .bool false) tt_ok rfl rfl ?_
      refine wl_pure tt_ok rfl rfl ?_
      replace h := bsome h; obtain ⟨v25, h, hg25⟩ := h
      replace h := cf rfl h
      refine wl_skip rfl rfl ?_
      refine wl_skip rfl rfl ?_
      refine wl_skip rfl rfl ?_
      simp only [Option.some.injEq, Prod.mk.injEq] at h
      obtain rfl := h
      have h := hg25; clear hg25
      refine wl_pure (v := .bool false) tt_ok rfl rfl ?_
      refine wl_pure tt_ok rfl rfl ?_
      replace h := bsome h; obtain ⟨v30, h, hg30⟩ := h
      replace h := cf rfl h
      refine wl_skip rfl rfl ?_
      refine wl_skip rfl rfl ?_
      refine wl_skip rfl rfl ?_
      simp only [Option.some.injEq, Prod.mk.injEq] at h
      obtain rfl := h
      have h := hg30; clear hg30
      refine wl_pure (v := .bool false) tt_ok rfl rfl ?_
      refine wl_pure tt_ok rfl rfl ?_
      replace h := bsome h; obtain ⟨v35, h, hg35⟩ := h
      replace h := cf rfl h
      refine wl_skip rfl rfl ?_
      refine wl_skip rfl rfl ?_
      refine wl_skip rfl rfl ?_
      simp only [Option.some.injEq, Prod.mk.injEq] at h
      obtain rfl := h
      have h := hg35; clear hg35
      refine wl_pure (v := .bool false) tt_ok rfl rfl ?_
      refine wl_pure tt_ok rfl rfl ?_
      refine wl_nil ?_
      refine wx_then ?_
      refine wc_ret ?_
      simp only [Option.some.injEq] at h
      obtain rfl := h
      exact wx_pf tt_ok (.inl rfl) Tryd.results31 (Res.tmp rfl Res.nil) rfl
    replace h := cf hc h
    refine wl_skip rfl rfl ?_
    refine wl_skip rfl rfl ?_
    refine wl_skip rfl rfl ?_
    simp only [Option.some.injEq, Prod.mk.injEq] at h
    obtain rfl := h
    have h := hg15; clear hg15
    refine wl_pure (v := .bool false) tt_ok rfl rfl ?_
    refine wl_pure tt_ok rfl rfl ?_
    replace h := bsome h; obtain ⟨v20, h, hg20⟩ := h
    replace h := cf rfl h
    refine wl_skip rfl rfl ?_
    refine wl_skip rfl rfl ?_
    refine wl_skip rfl rfl ?_
    simp only [Option.some.injEq, Prod.mk.injEq] at h
    obtain rfl := h
    have h := hg20; clear hg20
    refine wl_pure (v := .bool false) tt_ok rfl rfl ?_
    refine wl_pure tt_ok rfl rfl ?_
    replace h := bsome h; obtain ⟨v25, h, hg25⟩ := h
    replace h := cf rfl h
    refine wl_skip rfl rfl ?_
    refine wl_skip rfl rfl ?_
    refine wl_skip rfl rfl ?_
    simp only [Option.some.injEq, Prod.mk.injEq] at h
    obtain rfl := h
    have h := hg25; clear hg25
    refine wl_pure (v := .bool false) tt_ok rfl rfl ?_
    refine wl_pure tt_ok rfl rfl ?_
    replace h := bsome h; obtain ⟨v30, h, hg30⟩ := h
    replace h := cf rfl h
    refine wl_skip rfl rfl ?_
    refine wl_skip rfl rfl ?_
    refine wl_skip rfl rfl ?_
    simp only [Option.some.injEq, Prod.mk.injEq] at h
    obtain rfl := h
    have h := hg30; clear hg30
    refine wl_pure (v := .bool false) tt_ok rfl rfl ?_
    refine wl_pure tt_ok rfl rfl ?_
    replace h := bsome h; obtain ⟨v35, h, hg35⟩ := h
    replace h := cf rfl h
    refine wl_skip rfl rfl ?_
    refine wl_skip rfl rfl ?_
    refine wl_skip rfl rfl ?_
    simp only [Option.some.injEq, Prod.mk.injEq] at h
    obtain rfl := h
    have h := hg35; clear hg35
    refine wl_pure (v := .bool false) tt_ok rfl rfl ?_
    refine wl_pure tt_ok rfl rfl ?_
    refine wl_nil ?_
    refine wx_then ?_
    refine wc_ret ?_
    simp only [Option.some.injEq] at h
    obtain rfl := h
    exact wx_pf tt_ok (.inl rfl) Tryd.results31 (Res.tmp rfl Res.nil) rfl
  replace h := cf hc h
  refine wl_skip rfl rfl ?_
  refine wl_skip rfl rfl ?_
  refine wl_skip rfl rfl ?_
  simp only [Option.some.injEq, Prod.mk.injEq] at h
  obtain rfl := h
  have h := hg10; clear hg10
  refine wl_pure (v := .bool false) tt_ok rfl rfl ?_
  refine wl_pure tt_ok rfl rfl ?_
  replace h := bsome h; obtain ⟨v15, h, hg15⟩ := h
  replace h := cf rfl h
  refine wl_skip rfl rfl ?_
  refine wl_skip rfl rfl ?_
  refine wl_skip rfl rfl ?_
  simp only [Option.some.injEq, Prod.mk.injEq] at h
  obtain rfl := h
  have h := hg15; clear hg15
  refine wl_pure (v := .bool false) tt_ok rfl rfl ?_
  refine wl_pure tt_ok rfl rfl ?_
  replace h := bsome h; obtain ⟨v20, h, hg20⟩ := h
  replace h := cf rfl h
  refine wl_skip rfl rfl ?_
  refine wl_skip rfl rfl ?_
  refine wl_skip rfl rfl ?_
  simp only [Option.some.injEq, Prod.mk.injEq] at h
  obtain rfl := h
  have h := hg20; clear hg20
  refine wl_pure (v := .bool false) tt_ok rfl rfl ?_
  refine wl_pure tt_ok rfl rfl ?_
  replace h := bsome h; obtain ⟨v25, h, hg25⟩ := h
  replace h := cf rfl h
  refine wl_skip rfl rfl ?_
  refine wl_skip rfl rfl ?_
  refine wl_skip rfl rfl ?_
  simp only [Option.some.injEq, Prod.mk.injEq] at h
  obtain rfl := h
  have h := hg25; clear hg25
  refine wl_pure (v := .bool false) tt_ok rfl rfl ?_
  refine wl_pure tt_ok rfl rfl ?_
  replace h := bsome h; obtain ⟨v30, h, hg30⟩ := h
  replace h := cf rfl h
  refine wl_skip rfl rfl ?_
  refine wl_skip rfl rfl ?_
  refine wl_skip rfl rfl ?_
  simp only [Option.some.injEq, Prod.mk.injEq] at h
  obtain rfl := h
  have h := hg30; clear hg30
  refine wl_pure (v := .bool false) tt_ok rfl rfl ?_
  refine wl_pure tt_ok rfl rfl ?_
  replace h := bsome h; obtain ⟨v35, h, hg35⟩ := h
  replace h := cf rfl h
  refine wl_skip rfl rfl ?_
  refine wl_skip rfl rfl ?_
  refine wl_skip rfl rfl ?_
  simp only [Option.some.injEq, Prod.mk.injEq] at h
  obtain rfl := h
  have h := hg35; clear hg35
  refine wl_pure (v := .bool false) tt_ok rfl rfl ?_
  refine wl_pure tt_ok rfl rfl ?_
  refine wl_nil ?_
  refine wx_then ?_
  refine wc_ret ?_
  simp only [Option.some.injEq] at h
  obtain rfl := h
  exact wx_pf tt_ok (.inl rfl) Tryd.results31 (Res.tmp rfl Res.nil) rfl

theorem k_hindcastref08_Check {F : Nat} {p0 : T_api_State} {p0a0 : Option Addr} {p0n0 p0c0 : Nat} {r0 : Int} (p0N0 : p0n0 = p0.Shots.length) (p0H0 : p0n0 ≤ p0c0) (h : m_hindcastref08_Check F p0 = some r0) :
    Pf Tryd.prog 12 [.agg #[.int .u64 p0.Frame, .int .u64 p0.Seed, .int .i32 p0.Players.1.X, .int .i32 p0.Players.1.Y, .int .i32 p0.Players.1.VX, .int .i32 p0.Players.1.VY, .int .u8 p0.Players.1.Health, .int .u8 p0.Players.1.Cool, .int .u8 p0.Players.1.Face, .int .i32 p0.Players.2.X, .int .i32 p0.Players.2.Y, .int .i32 p0.Players.2.VX, .int .i32 p0.Players.2.VY, .int .u8 p0.Players.2.Health, .int .u8 p0.Players.2.Cool, .int .u8 p0.Players.2.Face, .slice p0a0 p0n0 p0c0, .int .u16 p0.Score.1, .int .u16 p0.Score.2]] (fun w => Rds w [] [] p0a0 (flat c_T_api_Shot p0.Shots)) (.int .i64 r0) := by
  unfold m_hindcastref08_Check at h
  refine pf_of_wc Tryd.func12 rfl Tryd.ntmps12 rfl rfl (fun w0 hR => ?_)
  have p0S0 := hR
  refine wc_seq ?_
  refine wc_region ?_
  refine wl_box rfl rfl rfl (fun b1 => ?_)
  refine wl_pure tt_ok rfl rfl ?_
  refine wl_nil ?_
  refine wx_then ?_
  refine wc_seq ?_
  refine wc_seq ?_
  refine wc_region ?_
  refine wl_pure (v := .pointer (some ⟨b1, 16, none⟩)) tt_ok rfl rfl ?_
  refine wl_val (v := .slice p0a0 p0n0 p0c0) (val_load tt_ok rfl (List.Mem.head _) rfl) rfl ?_
  refine wl_val (v := .int .i64 (p0.Shots.length : Int)) (val_len tt_ok rfl rfl p0N0) rfl ?_
  refine wl_pure (v := .bool (decide ((8 : Int) < (p0.Shots.length : Int)))) tt_ok rfl rfl ?_
  refine wl_pure tt_ok rfl rfl ?_
  replace h := bsome h; obtain ⟨v14, h, hg14⟩ := h
  refine wl_split (t := 8) rfl (fun hc => ?_) (fun hc => ?_)
  · replace h := ct hc h
    refine wl_skip rfl rfl ?_
    refine wl_skip rfl rfl ?_
    refine wl_skip rfl rfl ?_
    refine wl_skip rfl rfl ?_
    refine wl_skip rfl rfl ?_
    simp only [Option.some.injEq, Prod.mk.injEq] at h
    obtain rfl := h
    have h := hg14; clear hg14
    refine wl_pure (v := .bool true) tt_ok rfl rfl ?_
    refine wl_pure tt_ok rfl rfl ?_
    replace h := bsome h; obtain ⟨v21, h, hg21⟩ := h
    replace h := ct rfl h
    refine wl_skip rfl rfl ?_
    refine wl_skip rfl rfl ?_
    refine wl_skip rfl rfl ?_
    refine wl_skip rfl rfl ?_
    refine wl_skip rfl rfl ?_
    simp only [Option.some.injEq, Prod.mk.injEq] at h
    obtain rfl := h
    have h := hg21; clear hg21
    refine wl_pure (v := .bool true) tt_ok rfl rfl ?_
    refine wl_nil ?_
    refine wx_then ?_
    replace h := ct rfl h
    refine wc_cond_true rfl ?_
    refine wc_seq ?_
    refine wc_region ?_
    refine wl_pure tt_ok rfl rfl ?_
    refine wl_nil ?_
    refine wx_then ?_
    refine wc_ret ?_
    refine wx_then_ret ?_
    simp only [Option.some.injEq] at h
    obtain rfl := h
    exact wx_pf tt_ok (.inl rfl) Tryd.results12 (Res.tmp rfl Res.nil) rfl
  replace h := cf hc h
  refine wl_run rfl ?_
  refine wl_pure (v := .pointer (some ⟨b1, 2, none⟩)) tt_ok rfl rfl ?_
  refine wl_run rfl ?_
  refine wl_val (v := .pointer (some ⟨b1, 2, none⟩)) (val_ia (j := 0) tt_ok rfl rfl rfl rfl rfl rfl rfl) rfl ?_
  refine wl_run rfl ?_
  refine wl_val (v := .agg #[.int .i32 p0.Players.1.X, .int .i32 p0.Players.1.Y, .int .i32 p0.Players.1.VX, .int .i32 p0.Players.1.VY, .int .u8 p0.Players.1.Health, .int .u8 p0.Players.1.Cool, .int .u8 p0.Players.1.Face]) (val_load tt_ok rfl (List.Mem.head _) rfl) rfl ?_
  replace h := bsome h; obtain ⟨v12, x12, h⟩ := h
  refine wl_run rfl ?_
  refine wl_cq Tryd.call30 rfl rfl rfl (q_pf (k_hindcastref08_Player x12) (fun _ _ => trivial)) rfl ?_
  refine wl_run rfl ?_
  refine wl_pure (v := .bool (!v12)) tt_ok rfl rfl ?_
  simp only [Option.some.injEq, Prod.mk.injEq] at h
  obtain rfl := h
  have h := hg14; clear hg14
  refine wl_pure (v := .bool (!v12)) tt_ok rfl rfl ?_
  refine wl_pure tt_ok rfl rfl ?_
  replace h := bsome h; obtain ⟨v21, h, hg21⟩ := h
  refine wl_split (t := 15) rfl (fun hc => ?_) (fun hc => ?_)
  · replace h := ct hc h
    refine wl_skip rfl rfl ?_
    refine wl_skip rfl rfl ?_
    refine wl_skip rfl rfl ?_
    refine wl_skip rfl rfl ?_
    refine wl_skip rfl rfl ?_
    simp only [Option.some.injEq, Prod.mk.injEq] at h
    obtain rfl := h
    have h := hg21; clear hg21
    refine wl_pure (v := .bool true) tt_ok rfl rfl ?_
    refine wl_nil ?_
    refine wx_then ?_
    replace h := ct rfl h
    refine wc_cond_true rfl ?_
    refine wc_seq ?_
    refine wc_region ?_
    refine wl_pure tt_ok rfl rfl ?_
    refine wl_nil ?_
    refine wx_then ?_
    refine wc_ret ?_
    refine wx_then_ret ?_
    simp only [Option.some.injEq] at h
    obtain rfl := h
    exact wx_pf tt_ok (.inl rfl) Tryd.results12 (Res.tmp rfl Res.nil) rfl
  replace h := cf hc h
  refine wl_run rfl ?_
  refine wl_pure (v := .pointer (some ⟨b1, 2, none⟩)) tt_ok rfl rfl ?_
  refine wl_run rfl ?_
  refine wl_val (v := .pointer (some ⟨b1, 9, none⟩)) (val_ia (j := 1) tt_ok rfl rfl rfl rfl rfl rfl rfl) rfl ?_
  refine wl_run rfl ?_
  refine wl_val (v := .agg #[.int .i32 p0.Players.2.X, .int .i32 p0.Players.2.Y, .int .i32 p0.Players.2.VX, .int .i32 p0.Players.2.VY, .int .u8 p0.Players.2.Health, .int .u8 p0.Players.2.Cool, .int .u8 p0.Players.2.Face]) (val_load tt_ok rfl (List.Mem.head _) rfl) rfl ?_
  replace h := bsome h; obtain ⟨v19, x19, h⟩ := h
  refine wl_run rfl ?_
  refine wl_cq Tryd.call30 rfl rfl rfl (q_pf (k_hindcastref08_Player x19) (fun _ _ => trivial)) rfl ?_
  refine wl_run rfl ?_
  refine wl_pure (v := .bool (!v19)) tt_ok rfl rfl ?_
  simp only [Option.some.injEq, Prod.mk.injEq] at h
  obtain rfl := h
  have h := hg21; clear hg21
  refine wl_pure (v := .bool (!v19)) tt_ok rfl rfl ?_
  refine wl_nil ?_
  refine wx_then ?_
  refine wc_cond rfl (fun hc => ?_) (fun hc => ?_)
  · replace h := ct hc h
    refine wc_seq ?_
    refine wc_region ?_
    refine wl_pure tt_ok rfl rfl ?_
    refine wl_nil ?_
    refine wx_then ?_
    refine wc_ret ?_
    refine wx_then_ret ?_
    simp only [Option.some.injEq] at h
    obtain rfl := h
    exact wx_pf tt_ok (.inl rfl) Tryd.results12 (Res.tmp rfl Res.nil) rfl
  replace h := cf hc h
  refine wc_skip ?_
  refine wx_then ?_
  refine wc_seq ?_
  refine wc_seq ?_
  refine wc_region ?_
  refine wl_pure tt_ok rfl rfl ?_
  refine wl_nil ?_
  refine wx_then ?_
  refine wc_block ?_
  replace h := bsome h; obtain ⟨o15, h, hl15⟩ := h
  refine wc_loop (fun m E L => ∃ (j15_3 : Int), m_hindcastref08_Check_L14 F p0 m j15_3 = some o15 ∧ E = [(1, .pointer (some ⟨b1, 0, none⟩)), (2, .int .i64 (0 : Int)), (3, .int .i64 j15_3)] ∧ L = (⟨b1, [.int .u64 p0.Frame, .int .u64 p0.Seed, .int .i32 p0.Players.1.X, .int .i32 p0.Players.1.Y, .int .i32 p0.Players.1.VX, .int .i32 p0.Players.1.VY, .int .u8 p0.Players.1.Health, .int .u8 p0.Players.1.Cool, .int .u8 p0.Players.1.Face, .int .i32 p0.Players.2.X, .int .i32 p0.Players.2.Y, .int .i32 p0.Players.2.VX, .int .i32 p0.Players.2.VY, .int .u8 p0.Players.2.Health, .int .u8 p0.Players.2.Cool, .int .u8 p0.Players.2.Face, .slice p0a0 p0n0 p0c0, .int .u16 p0.Score.1, .int .u16 p0.Score.2], 30, (0, 0)⟩ :: [])) F ⟨(0 : Int), h, rfl, rfl⟩ (agree_cons rfl (agree_cons rfl (agree_cons rfl agree_nil))) (pSub (pCons Sel.hc pNil)) ?_
  clear h
  rintro m15 _ _ ⟨j15_3, h, rfl, rfl⟩
  rcases m15 with _ | m15
  · rw [m_hindcastref08_Check_L14.eq_1] at h; cases h
  rw [m_hindcastref08_Check_L14.eq_2] at h
  refine wc_seq ?_
  refine wc_seq ?_
  refine wc_region ?_
  refine wl_pure tt_ok rfl rfl ?_
  refine wl_pure (v := .pointer (some ⟨b1, 16, none⟩)) tt_ok rfl rfl ?_
  refine wl_val (v := .slice p0a0 p0n0 p0c0) (val_load tt_ok rfl (List.Mem.head _) rfl) rfl ?_
  refine wl_val (v := .int .i64 (p0.Shots.length : Int)) (val_len tt_ok rfl rfl p0N0) rfl ?_
  refine wl_pure (v := .bool (decide (j15_3 < (p0.Shots.length : Int)))) tt_ok rfl rfl ?_
  refine wl_nil ?_
  refine wx_then ?_
  refine wc_cond rfl (fun hc => ?_) (fun hc => ?_)
  · replace h := ct hc h
    refine wc_skip ?_
    refine wx_then ?_
    refine wc_seq ?_
    refine wc_block ?_
    refine wc_seq ?_
    refine wc_region ?_
    refine wl_pure (v := .pointer (some ⟨b1, 16, none⟩)) tt_ok rfl rfl ?_
    refine wl_val (v := .slice p0a0 p0n0 p0c0) (val_load tt_ok rfl (List.Mem.head _) rfl) rfl ?_
    refine wl_pure tt_ok rfl rfl ?_
    replace h := bsome h; obtain ⟨v32, x32, h⟩ := h
    refine wl_val (v := .pointer (some ((adOf p0a0).add (j15_3.toNat * 6 + 0)))) (val_ix (enc := c_T_api_Shot) tt_ok rfl rfl rfl rfl p0N0 p0S0 c_T_api_Shot_len rfl x32) rfl ?_
    refine wl_val (v := .agg #[.int .i32 v32.X, .int .i32 v32.Y, .int .i32 v32.VX, .int .i32 v32.VY, .int .u8 v32.Owner, .int .u8 v32.Life]) (val_le (enc := c_T_api_Shot) (xs := p0.Shots) tt_ok rfl p0S0 rsub_nil c_T_api_Shot_len x32 rfl) rfl ?_
    replace h := bsome h; obtain ⟨v34, x34, h⟩ := h
    refine wl_cq Tryd.call31 rfl rfl rfl (q_pf (k_hindcastref08_Shot x34) (fun _ _ => trivial)) rfl ?_
    refine wl_pure (v := .bool (!v34)) tt_ok rfl rfl ?_
    refine wl_nil ?_
    refine wx_then ?_
    refine wc_cond rfl (fun hc => ?_) (fun hc => ?_)
    · replace h := ct hc h
      refine wc_seq ?_
      refine wc_region ?_
      refine wl_pure tt_ok rfl rfl ?_
      refine wl_nil ?_
      refine wx_then ?_
      refine wc_ret ?_
      refine wx_block_ret ?_
      refine wx_then_ret ?_
      obtain rfl := Option.some.inj h
      have h := hl15; clear hl15; try dsimp only [orE_l, orE_r] at h
      refine wx_then_ret ?_
      refine wx_block_ret ?_
      refine wx_then_ret ?_
      simp only [Option.some.injEq] at h
      obtain rfl := h
      exact wx_pf tt_ok (.inl rfl) Tryd.results12 (Res.tmp rfl Res.nil) rfl
    replace h := cf hc h
    refine wc_skip ?_
    refine wx_block ?_
    refine wx_then ?_
    refine wc_region ?_
    refine wl_pure tt_ok rfl rfl ?_
    refine wl_pure (v := .int .i64 (IntKind.wrap .i64 (j15_3 + (1 : Int)))) tt_ok rfl rfl ?_
    refine wl_pure tt_ok rfl rfl ?_
    refine wl_nil ?_
    exact wx_round m15 (Nat.lt_succ_self m15) ⟨(IntKind.wrap .i64 (j15_3 + (1 : Int))), h, rfl, rfl⟩ (agree_cons rfl (agree_cons rfl (agree_cons rfl agree_nil))) (pSub (pCons Sel.hc pNil))
  replace h := cf hc h
  refine wc_exit ?_
  refine wx_then_exit ?_
  obtain rfl := Option.some.inj h
  have h := hl15; clear hl15; try dsimp only [orE_l, orE_r] at h
  refine wx_then_exit ?_
  refine wx_block_exit ?_
  refine wx_then ?_
  refine wc_seq ?_
  refine wc_region ?_
  refine wl_pure tt_ok rfl rfl ?_
  refine wl_nil ?_
  refine wx_then ?_
  refine wc_ret ?_
  simp only [Option.some.injEq] at h
  obtain rfl := h
  exact wx_pf tt_ok (.inl rfl) Tryd.results12 (Res.tmp rfl Res.nil) rfl

theorem k_hindcastref08_Take {F : Nat} {p0 : (List UInt8)} {r0 : T_api_State} {r1 : Int} (h : m_hindcastref08_Take F p0 = some (r0, r1)) :
    SpD Tryd.prog 19 [.string ⟨p0.toArray⟩] [] (fun w => True) (fun v D => ∃ (r0a0 : Option Addr) (r0n0 r0c0 : Nat) (r0B0 : List Blk), r0n0 = r0.Shots.length ∧ Own 50 6 r0a0 r0n0 r0c0 (flat c_T_api_Shot r0.Shots) r0B0 ∧ v = .tuple #[.agg #[.int .u64 r0.Frame, .int .u64 r0.Seed, .int .i32 r0.Players.1.X, .int .i32 r0.Players.1.Y, .int .i32 r0.Players.1.VX, .int .i32 r0.Players.1.VY, .int .u8 r0.Players.1.Health, .int .u8 r0.Players.1.Cool, .int .u8 r0.Players.1.Face, .int .i32 r0.Players.2.X, .int .i32 r0.Players.2.Y, .int .i32 r0.Players.2.VX, .int .i32 r0.Players.2.VY, .int .u8 r0.Players.2.Health, .int .u8 r0.Players.2.Cool, .int .u8 r0.Players.2.Face, .slice r0a0 r0n0 r0c0, .int .u16 r0.Score.1, .int .u16 r0.Score.2], .int .i64 r1] ∧ D = fun F => (r0B0 ++ F)) := by
  unfold m_hindcastref08_Take at h
  refine sp_of_wc Tryd.func19 rfl Tryd.ntmps19 rfl rfl (fun w0 hR => ?_)
  refine wc_seq ?_
  refine wc_region ?_
  refine wl_alloc tt_ok rfl rfl (fun b2 => ?_)
  refine wl_pure tt_ok rfl rfl ?_
  refine wl_nil ?_
  refine wx_then ?_
  refine wc_seq ?_
  refine wc_region ?_
  refine wl_pure tt_ok rfl rfl ?_
  refine wl_pure (v := .agg #[.string ⟨p0.toArray⟩, .int .i64 (0 : Int), .int .i64 (0 : Int)]) tt_ok rfl rfl ?_
  refine wl_box rfl rfl rfl (fun b13 => ?_)
  refine wl_pure tt_ok rfl rfl ?_
  refine wl_nil ?_
  refine wx_then ?_
  refine wc_seq ?_
  refine wc_region ?_
  refine wl_pure (v := .agg #[.int .u64 (0 : Int), .int .u64 (0 : Int), .int .i32 (0 : Int), .int .i32 (0 : Int), .int .i32 (0 : Int), .int .i32 (0 : Int), .int .u8 (0 : Int), .int .u8 (0 : Int), .int .u8 (0 : Int), .int .i32 (0 : Int), .int .i32 (0 : Int), .int .i32 (0 : Int), .int .i32 (0 : Int), .int .u8 (0 : Int), .int .u8 (0 : Int), .int .u8 (0 : Int), .slice none 0 0, .int .u16 (0 : Int), .int .u16 (0 : Int)]) tt_ok rfl rfl ?_
  refine wl_alloc tt_ok rfl rfl (fun b5 => ?_)
  apply wl_store tt_ok; rfl; exact Upd.here; rfl; rfl; rfl; rfl; rfl; rfl
  refine wl_nil ?_
  refine wx_then ?_
  refine wc_seq ?_
  refine wc_region ?_
  refine wl_pure tt_ok rfl rfl ?_
  replace h := bsome h; obtain ⟨⟨o16_0, v16⟩, x16, h⟩ := h; try dsimp only at h
  refine wl_cs Tryd.call50 rfl rfl rfl (s_sp (k_hindcastref02_Reader_Number x16) (pCons (Sel.sc Sel.hc) pNil) (fun _ _ => trivial)) rfl ?_
  rintro _ _ ⟨_, ⟨rfl, rfl⟩, rfl⟩
  refine wl_pure (v := .pointer (some ⟨b5, 0, none⟩)) tt_ok rfl rfl ?_
  apply wl_store tt_ok; rfl; exact (Upd.there Upd.here); rfl; rfl; rfl; rfl; rfl; rfl
  refine wl_nil ?_
  refine wx_then ?_
  refine wc_seq ?_
  refine wc_region ?_
  refine wl_pure tt_ok rfl rfl ?_
  replace h := bsome h; obtain ⟨⟨o19_0, v19⟩, x19, h⟩ := h; try dsimp only at h
  refine wl_cs Tryd.call50 rfl rfl rfl (s_sp (k_hindcastref02_Reader_Number x19) (pCons Sel.hc pNil) (fun _ _ => trivial)) rfl ?_
  rintro _ _ ⟨_, ⟨rfl, rfl⟩, rfl⟩
  refine wl_pure (v := .pointer (some ⟨b5, 1, none⟩)) tt_ok rfl rfl ?_
  apply wl_store tt_ok; rfl; exact (Upd.there Upd.here); rfl; rfl; rfl; rfl; rfl; rfl
  refine wl_nil ?_
  refine wx_then ?_
  refine wc_seq ?_
  refine wc_seq ?_
  refine wc_region ?_
  refine wl_pure tt_ok rfl rfl ?_
  refine wl_nil ?_
  refine wx_then ?_
  refine wc_block ?_
  replace h := bsome h; obtain ⟨⟨l15_n13, l15_n5_f2⟩, h, hl15⟩ := h; try dsimp only at hl15
  refine wc_loop (fun m E L => ∃ (j15_6 : Int) (j15_n13 : T_hindcastref02_Reader) (j15_n5_f2 : (T_api_Player × T_api_Player)), m_hindcastref08_Take_L14 F m j15_6 j15_n13 j15_n5_f2 = some (l15_n13, l15_n5_f2) ∧ E = [(2, .pointer (some ⟨b2, 0, none⟩)), (3, .int .i64 (0 : Int)), (4, .pointer (some ⟨b13, 0, none⟩)), (5, .pointer (some ⟨b5, 0, none⟩)), (6, .int .i64 j15_6)] ∧ L = (⟨b2, [.int .u64 (0 : Int), .int .u64 (0 : Int), .int .i32 (0 : Int), .int .i32 (0 : Int), .int .i32 (0 : Int), .int .i32 (0 : Int), .int .u8 (0 : Int), .int .u8 (0 : Int), .int .u8 (0 : Int), .int .i32 (0 : Int), .int .i32 (0 : Int), .int .i32 (0 : Int), .int .i32 (0 : Int), .int .u8 (0 : Int), .int .u8 (0 : Int), .int .u8 (0 : Int), .slice none 0 0, .int .u16 (0 : Int), .int .u16 (0 : Int)], 30, (0, 0)⟩ :: (⟨b13, [.string ⟨j15_n13.S.toArray⟩, .int .i64 j15_n13.At, .int .i64 j15_n13.E], 84, (0, 0)⟩ :: (⟨b5, [.int .u64 v16, .int .u64 v19, .int .i32 j15_n5_f2.1.X, .int .i32 j15_n5_f2.1.Y, .int .i32 j15_n5_f2.1.VX, .int .i32 j15_n5_f2.1.VY, .int .u8 j15_n5_f2.1.Health, .int .u8 j15_n5_f2.1.Cool, .int .u8 j15_n5_f2.1.Face, .int .i32 j15_n5_f2.2.X, .int .i32 j15_n5_f2.2.Y, .int .i32 j15_n5_f2.2.VX, .int .i32 j15_n5_f2.2.VY, .int .u8 j15_n5_f2.2.Health, .int .u8 j15_n5_f2.2.Cool, .int .u8 j15_n5_f2.2.Face, .slice none 0 0, .int .u16 (0 : Int), .int .u16 (0 : Int)], 30, (0, 0)⟩ :: [])))) F ⟨(0 : Int), o19_0, ((T_api_Player.mk (0 : Int) (0 : Int) (0 : Int) (0 : Int) (0 : Int) (0 : Int) (0 : Int)), (T_api_Player.mk (0 : Int) (0 : Int) (0 : Int) (0 : Int) (0 : Int) (0 : Int) (0 : Int))), h, rfl, rfl⟩ (agree_cons rfl (agree_cons rfl (agree_cons rfl (agree_cons rfl (agree_cons rfl agree_nil))))) (pSub (pCons (Sel.sc (Sel.sc Sel.hc)) (pCons Sel.hc (pCons Sel.hc pNil)))) ?_
  clear h
  rintro m15 _ _ ⟨j15_6, j15_n13, j15_n5_f2, h, rfl, rfl⟩
  rcases m15 with _ | m15
  · rw [m_hindcastref08_Take_L14.eq_1] at h; cases h
  rw [m_hindcastref08_Take_L14.eq_2] at h
  refine wc_seq ?_
  refine wc_seq ?_
  refine wc_region ?_
  refine wl_pure tt_ok rfl rfl ?_
  refine wl_pure (v := .bool (decide (j15_6 < (2 : Int)))) tt_ok rfl rfl ?_
  refine wl_nil ?_
  refine wx_then ?_
  refine wc_cond rfl (fun hc => ?_) (fun hc => ?_)
  · replace h := ct hc h
    refine wc_skip ?_
    refine wx_then ?_
    refine wc_seq ?_
    refine wc_block ?_
    refine wc_seq ?_
    refine wc_region ?_
    refine wl_pure (v := .agg #[.int .i32 (0 : Int), .int .i32 (0 : Int), .int .i32 (0 : Int), .int .i32 (0 : Int), .int .u8 (0 : Int), .int .u8 (0 : Int), .int .u8 (0 : Int)]) tt_ok rfl rfl ?_
    refine wl_alloc tt_ok rfl rfl (fun b7 => ?_)
    apply wl_store tt_ok; rfl; exact Upd.here; rfl; rfl; rfl; rfl; rfl; rfl
    refine wl_nil ?_
    refine wx_then ?_
    refine wc_seq ?_
    refine wc_region ?_
    refine wl_pure tt_ok rfl rfl ?_
    replace h := bsome h; obtain ⟨⟨o27_0, v27⟩, x27, h⟩ := h; try dsimp only at h
    refine wl_cs Tryd.call51 rfl rfl rfl (s_sp (k_hindcastref08_number x27) (pCons (Sel.sc (Sel.sc Sel.hc)) pNil) (fun _ _ => trivial)) rfl ?_
    rintro _ _ ⟨_, ⟨rfl, rfl⟩, rfl⟩
    refine wl_pure (v := .pointer (some ⟨b7, 0, none⟩)) tt_ok rfl rfl ?_
    apply wl_store tt_ok; rfl; exact (Upd.there Upd.here); rfl; rfl; rfl; rfl; rfl; rfl
    refine wl_nil ?_
    refine wx_then ?_
    refine wc_seq ?_
    refine wc_region ?_
    refine wl_pure tt_ok rfl rfl ?_
    replace h := bsome h; obtain ⟨⟨o30_0, v30⟩, x30, h⟩ := h; try dsimp only at h
    refine wl_cs Tryd.call51 rfl rfl rfl (s_sp (k_hindcastref08_number x30) (pCons Sel.hc pNil) (fun _ _ => trivial)) rfl ?_
    rintro _ _ ⟨_, ⟨rfl, rfl⟩, rfl⟩
    refine wl_pure (v := .pointer (some ⟨b7, 1, none⟩)) tt_ok rfl rfl ?_
    apply wl_store tt_ok; rfl; exact (Upd.there Upd.here); rfl; rfl; rfl; rfl; rfl; rfl
    refine wl_nil ?_
    refine wx_then ?_
    refine wc_seq ?_
    refine wc_region ?_
    refine wl_pure tt_ok rfl rfl ?_
    replace h := bsome h; obtain ⟨⟨o33_0, v33⟩, x33, h⟩ := h; try dsimp only at h
    refine wl_cs Tryd.call51 rfl rfl rfl (s_sp (k_hindcastref08_number x33) (pCons Sel.hc pNil) (fun _ _ => trivial)) rfl ?_
    rintro _ _ ⟨_, ⟨rfl, rfl⟩, rfl⟩
    refine wl_pure (v := .pointer (some ⟨b7, 2, none⟩)) tt_ok rfl rfl ?_
    apply wl_store tt_ok; rfl; exact (Upd.there Upd.here); rfl; rfl; rfl; rfl; rfl; rfl
    refine wl_nil ?_
    refine wx_then ?_
    refine wc_seq ?_
    refine wc_region ?_
    refine wl_pure tt_ok rfl rfl ?_
    replace h := bsome h; obtain ⟨⟨o36_0, v36⟩, x36, h⟩ := h; try dsimp only at h
    refine wl_cs Tryd.call51 rfl rfl rfl (s_sp (k_hindcastref08_number x36) (pCons Sel.hc pNil) (fun _ _ => trivial)) rfl ?_
    rintro _ _ ⟨_, ⟨rfl, rfl⟩, rfl⟩
    refine wl_pure (v := .pointer (some ⟨b7, 3, none⟩)) tt_ok rfl rfl ?_
    apply wl_store tt_ok; rfl; exact (Upd.there Upd.here); rfl; rfl; rfl; rfl; rfl; rfl
    refine wl_nil ?_
    refine wx_then ?_
    refine wc_seq ?_
    refine wc_region ?_
    refine wl_pure tt_ok rfl rfl ?_
    replace h := bsome h; obtain ⟨⟨o39_0, v39⟩, x39, h⟩ := h; try dsimp only at h
    refine wl_cs Tryd.call50 rfl rfl rfl (s_sp (k_hindcastref02_Reader_Number x39) (pCons Sel.hc pNil) (fun _ _ => trivial)) rfl ?_
    rintro _ _ ⟨_, ⟨rfl, rfl⟩, rfl⟩
    refine wl_pure (v := .int .u8 (IntKind.wrap .u8 v39)) tt_ok rfl rfl ?_
    refine wl_pure (v := .pointer (some ⟨b7, 4, none⟩)) tt_ok rfl rfl ?_
    apply wl_store tt_ok; rfl; exact (Upd.there Upd.here); rfl; rfl; rfl; rfl; rfl; rfl
    refine wl_nil ?_
    refine wx_then ?_
    refine wc_seq ?_
    refine wc_region ?_
    refine wl_pure tt_ok rfl rfl ?_
    replace h := bsome h; obtain ⟨⟨o43_0, v43⟩, x43, h⟩ := h; try dsimp only at h
    refine wl_cs Tryd.call50 rfl rfl rfl (s_sp (k_hindcastref02_Reader_Number x43) (pCons Sel.hc pNil) (fun _ _ => trivial)) rfl ?_
    rintro _ _ ⟨_, ⟨rfl, rfl⟩, rfl⟩
    refine wl_pure (v := .int .u8 (IntKind.wrap .u8 v43)) tt_ok rfl rfl ?_
    refine wl_pure (v := .pointer (some ⟨b7, 5, none⟩)) tt_ok rfl rfl ?_
    apply wl_store tt_ok; rfl; exact (Upd.there Upd.here); rfl; rfl; rfl; rfl; rfl; rfl
    refine wl_nil ?_
    refine wx_then ?_
    refine wc_seq ?_
    refine wc_region ?_
    refine wl_pure tt_ok rfl rfl ?_
    replace h := bsome h; obtain ⟨⟨o47_0, v47⟩, x47, h⟩ := h; try dsimp only at h
    refine wl_cs Tryd.call50 rfl rfl rfl (s_sp (k_hindcastref02_Reader_Number x47) (pCons Sel.hc pNil) (fun _ _ => trivial)) rfl ?_
    rintro _ _ ⟨_, ⟨rfl, rfl⟩, rfl⟩
    refine wl_pure (v := .int .u8 (IntKind.wrap .u8 v47)) tt_ok rfl rfl ?_
    refine wl_pure (v := .pointer (some ⟨b7, 6, none⟩)) tt_ok rfl rfl ?_
    apply wl_store tt_ok; rfl; exact (Upd.there Upd.here); rfl; rfl; rfl; rfl; rfl; rfl
    refine wl_nil ?_
    refine wx_then ?_
    refine wc_region ?_
    refine wl_pure tt_ok rfl rfl ?_
    refine wl_val (v := .agg #[.int .i32 v27, .int .i32 v30, .int .i32 v33, .int .i32 v36, .int .u8 (IntKind.wrap .u8 v39), .int .u8 (IntKind.wrap .u8 v43), .int .u8 (IntKind.wrap .u8 v47)]) (val_load tt_ok rfl (List.Mem.tail _ (List.Mem.head _)) rfl) rfl ?_
    refine wl_pure (v := .pointer (some ⟨b5, 2, none⟩)) tt_ok rfl rfl ?_
    rcases Bool.eq_false_or_eq_true (j15_6 == (0 : Int)) with hx530 | hx530
    · replace h := ct hx530 h
      refine wl_val (v := .pointer (some ⟨b5, 2, none⟩)) (val_ia (j := 0) tt_ok rfl rfl rfl rfl (by simpa using hx530) rfl rfl) rfl ?_
      apply wl_store tt_ok; rfl; exact (Upd.there (Upd.there (Upd.there Upd.here))); rfl; rfl; rfl; rfl; rfl; rfl
      refine wl_nil ?_
      refine wx_block ?_
      refine wx_then ?_
      refine wc_region ?_
      refine wl_pure tt_ok rfl rfl ?_
      refine wl_pure (v := .int .i64 (IntKind.wrap .i64 (j15_6 + (1 : Int)))) tt_ok rfl rfl ?_
      refine wl_pure tt_ok rfl rfl ?_
      refine wl_nil ?_
      exact wx_round m15 (Nat.lt_succ_self m15) ⟨(IntKind.wrap .i64 (j15_6 + (1 : Int))), o47_0, ((T_api_Player.mk v27 v30 v33 v36 (IntKind.wrap .u8 v39) (IntKind.wrap .u8 v43) (IntKind.wrap .u8 v47)), j15_n5_f2.2), h, rfl, rfl⟩ (agree_cons rfl (agree_cons rfl (agree_cons rfl (agree_cons rfl (agree_cons rfl agree_nil))))) (pSub (pCons (Sel.sc (Sel.sc Sel.hc)) (pCons Sel.hc (pCons (Sel.sc Sel.hc) pNil))))
    replace h := cf hx530 h
    rcases Bool.eq_false_or_eq_true (j15_6 == (1 : Int)) with hx531 | hx531
    · replace h := ct hx531 h
      refine wl_val (v := .pointer (some ⟨b5, 9, none⟩)) (val_ia (j := 1) tt_ok rfl rfl rfl rfl (by simpa using hx531) rfl rfl) rfl ?_
      apply wl_store tt_ok; rfl; exact (Upd.there (Upd.there (Upd.there Upd.here))); rfl; rfl; rfl; rfl; rfl; rfl
      refine wl_nil ?_
      refine wx_block ?_
      refine wx_then ?_
      refine wc_region ?_
      refine wl_pure tt_ok rfl rfl ?_
      refine wl_pure (v := .int .i64 (IntKind.wrap .i64 (j15_6 + (1 : Int)))) tt_ok rfl rfl ?_
      refine wl_pure tt_ok rfl rfl ?_
      refine wl_nil ?_
      exact wx_round m15 (Nat.lt_succ_self m15) ⟨(IntKind.wrap .i64 (j15_6 + (1 : Int))), o47_0, (j15_n5_f2.1, (T_api_Player.mk v27 v30 v33 v36 (IntKind.wrap .u8 v39) (IntKind.wrap .u8 v43) (IntKind.wrap .u8 v47))), h, rfl, rfl⟩ (agree_cons rfl (agree_cons rfl (agree_cons rfl (agree_cons rfl (agree_cons rfl agree_nil))))) (pSub (pCons (Sel.sc (Sel.sc Sel.hc)) (pCons Sel.hc (pCons (Sel.sc Sel.hc) pNil))))
    replace h := cf hx531 h
    cases h
  replace h := cf hc h
  refine wc_exit ?_
  refine wx_then_exit ?_
  simp only [Option.some.injEq, Prod.mk.injEq] at h
  obtain ⟨rfl, rfl⟩ := h
  have h := hl15; clear hl15; try dsimp only [orE_l, orE_r] at h
  refine wx_then_exit ?_
  refine wx_block_exit ?_
  refine wx_then ?_
  refine wc_seq ?_
  refine wc_region ?_
  refine wl_pure tt_ok rfl rfl ?_
  replace h := bsome h; obtain ⟨⟨o55_0, v55⟩, x55, h⟩ := h; try dsimp only at h
  refine wl_cs Tryd.call52 rfl rfl rfl (s_sp (k_hindcastref02_Reader_Var x55) (pCons (Sel.sc Sel.hc) pNil) (fun _ _ => trivial)) rfl ?_
  rintro _ _ ⟨_, ⟨rfl, rfl⟩, rfl⟩
  refine wl_pure tt_ok rfl rfl ?_
  refine wl_nil ?_
  refine wx_then ?_
  refine wc_seq ?_
  refine wc_seq ?_
  refine wc_region ?_
  refine wl_pure tt_ok rfl rfl ?_
  refine wl_pure tt_ok rfl rfl ?_
  refine wl_pure (v := .pointer (some ⟨b13, 2, none⟩)) tt_ok rfl rfl ?_
  refine wl_val (v := .int .i64 o55_0.E) (val_load tt_ok rfl (List.Mem.head _) rfl) rfl ?_
  refine wl_pure (v := .bool (o55_0.E != (0 : Int))) tt_ok rfl rfl ?_
  refine wl_nil ?_
  refine wx_then ?_
  refine wc_cond rfl (fun hc => ?_) (fun hc => ?_)
  · replace h := ct hc h
    refine wc_seq ?_
    refine wc_k2 (Ls := (⟨b13, [.string ⟨o55_0.S.toArray⟩, .int .i64 o55_0.At, .int .i64 o55_0.E], 84, (0, 0)⟩ :: (⟨b5, [.int .u64 v16, .int .u64 v19, .int .i32 j15_n5_f2.1.X, .int .i32 j15_n5_f2.1.Y, .int .i32 j15_n5_f2.1.VX, .int .i32 j15_n5_f2.1.VY, .int .u8 j15_n5_f2.1.Health, .int .u8 j15_n5_f2.1.Cool, .int .u8 j15_n5_f2.1.Face, .int .i32 j15_n5_f2.2.X, .int .i32 j15_n5_f2.2.Y, .int .i32 j15_n5_f2.2.VX, .int .i32 j15_n5_f2.2.VY, .int .u8 j15_n5_f2.2.Health, .int .u8 j15_n5_f2.2.Cool, .int .u8 j15_n5_f2.2.Face, .slice none 0 0, .int .u16 (0 : Int), .int .u16 (0 : Int)], 30, (0, 0)⟩ :: []))) [5, 6] [6] [0, 0, 2, 6, 14, 1, 63] [0, 1, 2, 3, 4, 5, 6] (by kernel_rfl) (by kernel_rfl) (by kernel_rfl) ?_
    refine k_val (v := .agg #[.int .u64 (0 : Int), .int .u64 (0 : Int), .int .i32 (0 : Int), .int .i32 (0 : Int), .int .i32 (0 : Int), .int .i32 (0 : Int), .int .u8 (0 : Int), .int .u8 (0 : Int), .int .u8 (0 : Int), .int .i32 (0 : Int), .int .i32 (0 : Int), .int .i32 (0 : Int), .int .i32 (0 : Int), .int .u8 (0 : Int), .int .u8 (0 : Int), .int .u8 (0 : Int), .slice none 0 0, .int .u16 (0 : Int), .int .u16 (0 : Int)]) rfl rfl rfl (pSub (pCons Sel.hc (pCons (Sel.sc Sel.hc) pNil))) (stepV_ok tt_ok rfl) rfl ?_
    refine k_val rfl rfl rfl (pSub (pCons Sel.hc (pCons (Sel.sc Sel.hc) pNil))) (stepV_ok tt_ok rfl) rfl ?_
    refine k_val rfl rfl rfl (pSub (pCons Sel.hc (pCons (Sel.sc Sel.hc) pNil))) (stepV_ok tt_ok rfl) rfl ?_
    refine k_val (v := .pointer (some ⟨b13, 2, none⟩)) rfl rfl rfl (pSub (pCons Sel.hc (pCons (Sel.sc Sel.hc) pNil))) (stepV_ok tt_ok rfl) rfl ?_
    refine k_val (v := .int .i64 o55_0.E) rfl rfl rfl (pSub (pCons Sel.hc (pCons (Sel.sc Sel.hc) pNil))) (val_load tt_ok rfl (List.Mem.head _) rfl) rfl ?_
    refine k_chg0 rfl rfl rfl (chg_store tt_ok rfl (Upd.there Upd.here) rfl rfl rfl rfl rfl rfl) (.inr (by rintro _ _ rfl; exact ⟨_, (pCons Sel.hc (pCons (Sel.sc Sel.hc) pNil))⟩)) ?_
    rintro _ _ rfl
    refine k_chg rfl rfl rfl (Chg.of_val (stepV_ok tt_ok rfl)) rfl (.inl rfl) ?_
    rintro _ _ ⟨rfl, rfl⟩
    refine k_end (by kernel_rfl) ?_
    refine wx_then ?_
    refine wc_ret ?_
    refine wx_then_ret ?_
    simp only [Option.some.injEq, Prod.mk.injEq] at h
    obtain ⟨rfl, rfl⟩ := h
    exact wx_spD tt_ok (.inl rfl) Tryd.results19 (Res.cell rfl (List.Mem.tail _ (List.Mem.head _)) rfl (Res.tmp rfl Res.nil)) ⟨none, 0, 0, [], rfl, Own.zero, rfl, rfl⟩ (fun F => by simp) (pSub (pNo pNil))
  replace h := cf hc h
  refine wc_skip ?_
  refine wx_then ?_
  refine wc_seq ?_
  refine wc_seq ?_
  refine wc_region ?_
  refine wl_pure tt_ok rfl rfl ?_
  refine wl_pure (v := .bool (decide ((8 : Int) < v55))) tt_ok rfl rfl ?_
  refine wl_nil ?_
  refine wx_then ?_
  refine wc_cond rfl (fun hc => ?_) (fun hc => ?_)
  · replace h := ct hc h
    refine wc_seq ?_
    refine wc_region ?_
    refine wl_pure (v := .agg #[.int .u64 (0 : Int), .int .u64 (0 : Int), .int .i32 (0 : Int), .int .i32 (0 : Int), .int .i32 (0 : Int), .int .i32 (0 : Int), .int .u8 (0 : Int), .int .u8 (0 : Int), .int .u8 (0 : Int), .int .i32 (0 : Int), .int .i32 (0 : Int), .int .i32 (0 : Int), .int .i32 (0 : Int), .int .u8 (0 : Int), .int .u8 (0 : Int), .int .u8 (0 : Int), .slice none 0 0, .int .u16 (0 : Int), .int .u16 (0 : Int)]) tt_ok rfl rfl ?_
    apply wl_store tt_ok; rfl; exact (Upd.there Upd.here); rfl; rfl; rfl; rfl; rfl; rfl
    refine wl_pure tt_ok rfl rfl ?_
    refine wl_nil ?_
    refine wx_then ?_
    refine wc_ret ?_
    refine wx_then_ret ?_
    simp only [Option.some.injEq, Prod.mk.injEq] at h
    obtain ⟨rfl, rfl⟩ := h
    exact wx_spD tt_ok (.inl rfl) Tryd.results19 (Res.cell rfl (List.Mem.tail _ (List.Mem.head _)) rfl (Res.tmp rfl Res.nil)) ⟨none, 0, 0, [], rfl, Own.zero, rfl, rfl⟩ (fun F => by simp) (pSub (pNo pNil))
  replace h := cf hc h
  refine wc_skip ?_
  refine wx_then ?_
  refine wc_seq ?_
  refine wc_seq ?_
  refine wc_region ?_
  refine wl_pure tt_ok rfl rfl ?_
  refine wl_nil ?_
  refine wx_then ?_
  refine wc_block ?_
  replace h := bsome h; obtain ⟨⟨l64_n13, l64_n5_f3⟩, h, hl64⟩ := h; try dsimp only at hl64
  refine wc_loop (fun m E L => ∃ (j64_9 : Int) (j64_n13 : T_hindcastref02_Reader) (j64_n5_f3 : (List T_api_Shot)) (j64_n5_f3a0 : Option Addr) (j64_n5_f3n0 : Nat) (j64_n5_f3c0 : Nat) (j64_n5_f3B0 : List Blk), m_hindcastref08_Take_L63 F v55 m j64_9 j64_n13 j64_n5_f3 = some (l64_n13, l64_n5_f3) ∧ j64_n5_f3n0 = j64_n5_f3.length ∧ Own 50 6 j64_n5_f3a0 j64_n5_f3n0 j64_n5_f3c0 (flat c_T_api_Shot j64_n5_f3) j64_n5_f3B0 ∧ E = [(2, .pointer (some ⟨b2, 0, none⟩)), (3, .int .i64 (0 : Int)), (4, .pointer (some ⟨b13, 0, none⟩)), (5, .pointer (some ⟨b5, 0, none⟩)), (8, .int .u64 v55), (9, .int .i64 j64_9)] ∧ L = (⟨b2, [.int .u64 (0 : Int), .int .u64 (0 : Int), .int .i32 (0 : Int), .int .i32 (0 : Int), .int .i32 (0 : Int), .int .i32 (0 : Int), .int .u8 (0 : Int), .int .u8 (0 : Int), .int .u8 (0 : Int), .int .i32 (0 : Int), .int .i32 (0 : Int), .int .i32 (0 : Int), .int .i32 (0 : Int), .int .u8 (0 : Int), .int .u8 (0 : Int), .int .u8 (0 : Int), .slice none 0 0, .int .u16 (0 : Int), .int .u16 (0 : Int)], 30, (0, 0)⟩ :: (⟨b13, [.string ⟨j64_n13.S.toArray⟩, .int .i64 j64_n13.At, .int .i64 j64_n13.E], 84, (0, 0)⟩ :: (⟨b5, [.int .u64 v16, .int .u64 v19, .int .i32 j15_n5_f2.1.X, .int .i32 j15_n5_f2.1.Y, .int .i32 j15_n5_f2.1.VX, .int .i32 j15_n5_f2.1.VY, .int .u8 j15_n5_f2.1.Health, .int .u8 j15_n5_f2.1.Cool, .int .u8 j15_n5_f2.1.Face, .int .i32 j15_n5_f2.2.X, .int .i32 j15_n5_f2.2.Y, .int .i32 j15_n5_f2.2.VX, .int .i32 j15_n5_f2.2.VY, .int .u8 j15_n5_f2.2.Health, .int .u8 j15_n5_f2.2.Cool, .int .u8 j15_n5_f2.2.Face, .slice j64_n5_f3a0 j64_n5_f3n0 j64_n5_f3c0, .int .u16 (0 : Int), .int .u16 (0 : Int)], 30, (0, 0)⟩ :: (j64_n5_f3B0 ++ []))))) F ⟨(0 : Int), o55_0, ([] : List T_api_Shot), none, 0, 0, [], h, rfl, Own.zero, rfl, rfl⟩ (agree_cons rfl (agree_cons rfl (agree_cons rfl (agree_cons rfl (agree_cons rfl (agree_cons rfl agree_nil)))))) (pSub (pCons (Sel.sc Sel.hc) (pCons Sel.hc (pCons Sel.hc (pNo pNil))))) ?_
  clear h
  rintro m64 _ _ ⟨j64_9, j64_n13, j64_n5_f3, j64_n5_f3a0, j64_n5_f3n0, j64_n5_f3c0, j64_n5_f3B0, h, j64_n5_f3N0, j64_n5_f3V0, rfl, rfl⟩
  rcases m64 with _ | m64
  · rw [m_hindcastref08_Take_L63.eq_1] at h; cases h
  rw [m_hindcastref08_Take_L63.eq_2] at h
  refine wc_seq ?_
  refine wc_seq ?_
  refine wc_region ?_
  refine wl_pure tt_ok rfl rfl ?_
  refine wl_pure tt_ok rfl rfl ?_
  refine wl_pure (v := .int .i64 (IntKind.wrap .i64 v55)) tt_ok rfl rfl ?_
  refine wl_pure (v := .bool (decide (j64_9 < (IntKind.wrap .i64 v55)))) tt_ok rfl rfl ?_
  refine wl_nil ?_
  refine wx_then ?_
  refine wc_cond rfl (fun hc => ?_) (fun hc => ?_)
  · replace h := ct hc h
    refine wc_skip ?_
    refine wx_then ?_
    refine wc_seq ?_
    refine wc_block ?_
    refine wc_seq ?_
    refine wc_region ?_
    refine wl_pure (v := .agg #[.int .i32 (0 : Int), .int .i32 (0 : Int), .int .i32 (0 : Int), .int .i32 (0 : Int), .int .u8 (0 : Int), .int .u8 (0 : Int)]) tt_ok rfl rfl ?_
    refine wl_alloc tt_ok rfl rfl (fun b10 => ?_)
    apply wl_store tt_ok; rfl; exact Upd.here; rfl; rfl; rfl; rfl; rfl; rfl
    refine wl_nil ?_
    refine wx_then ?_
    refine wc_seq ?_
    refine wc_region ?_
    refine wl_pure tt_ok rfl rfl ?_
    replace h := bsome h; obtain ⟨⟨o77_0, v77⟩, x77, h⟩ := h; try dsimp only at h
    refine wl_cs Tryd.call51 rfl rfl rfl (s_sp (k_hindcastref08_number x77) (pCons (Sel.sc (Sel.sc Sel.hc)) pNil) (fun _ _ => trivial)) rfl ?_
    rintro _ _ ⟨_, ⟨rfl, rfl⟩, rfl⟩
    refine wl_pure (v := .pointer (some ⟨b10, 0, none⟩)) tt_ok rfl rfl ?_
    apply wl_store tt_ok; rfl; exact (Upd.there Upd.here); rfl; rfl; rfl; rfl; rfl; rfl
    refine wl_nil ?_
    refine wx_then ?_
    refine wc_seq ?_
    refine wc_region ?_
    refine wl_pure tt_ok rfl rfl ?_
    replace h := bsome h; obtain ⟨⟨o80_0, v80⟩, x80, h⟩ := h; try dsimp only at h
    refine wl_cs Tryd.call51 rfl rfl rfl (s_sp (k_hindcastref08_number x80) (pCons Sel.hc pNil) (fun _ _ => trivial)) rfl ?_
    rintro _ _ ⟨_, ⟨rfl, rfl⟩, rfl⟩
    refine wl_pure (v := .pointer (some ⟨b10, 1, none⟩)) tt_ok rfl rfl ?_
    apply wl_store tt_ok; rfl; exact (Upd.there Upd.here); rfl; rfl; rfl; rfl; rfl; rfl
    refine wl_nil ?_
    refine wx_then ?_
    refine wc_seq ?_
    refine wc_region ?_
    refine wl_pure tt_ok rfl rfl ?_
    replace h := bsome h; obtain ⟨⟨o83_0, v83⟩, x83, h⟩ := h; try dsimp only at h
    refine wl_cs Tryd.call51 rfl rfl rfl (s_sp (k_hindcastref08_number x83) (pCons Sel.hc pNil) (fun _ _ => trivial)) rfl ?_
    rintro _ _ ⟨_, ⟨rfl, rfl⟩, rfl⟩
    refine wl_pure (v := .pointer (some ⟨b10, 2, none⟩)) tt_ok rfl rfl ?_
    apply wl_store tt_ok; rfl; exact (Upd.there Upd.here); rfl; rfl; rfl; rfl; rfl; rfl
    refine wl_nil ?_
    refine wx_then ?_
    refine wc_seq ?_
    refine wc_region ?_
    refine wl_pure tt_ok rfl rfl ?_
    replace h := bsome h; obtain ⟨⟨o86_0, v86⟩, x86, h⟩ := h; try dsimp only at h
    refine wl_cs Tryd.call51 rfl rfl rfl (s_sp (k_hindcastref08_number x86) (pCons Sel.hc pNil) (fun _ _ => trivial)) rfl ?_
    rintro _ _ ⟨_, ⟨rfl, rfl⟩, rfl⟩
    refine wl_pure (v := .pointer (some ⟨b10, 3, none⟩)) tt_ok rfl rfl ?_
    apply wl_store tt_ok; rfl; exact (Upd.there Upd.here); rfl; rfl; rfl; rfl; rfl; rfl
    refine wl_nil ?_
    refine wx_then ?_
    refine wc_seq ?_
    refine wc_region ?_
    refine wl_pure tt_ok rfl rfl ?_
    replace h := bsome h; obtain ⟨⟨o89_0, v89⟩, x89, h⟩ := h; try dsimp only at h
    refine wl_cs Tryd.call50 rfl rfl rfl (s_sp (k_hindcastref02_Reader_Number x89) (pCons Sel.hc pNil) (fun _ _ => trivial)) rfl ?_
    rintro _ _ ⟨_, ⟨rfl, rfl⟩, rfl⟩
    refine wl_pure (v := .int .u8 (IntKind.wrap .u8 v89)) tt_ok rfl rfl ?_
    refine wl_pure (v := .pointer (some ⟨b10, 4, none⟩)) tt_ok rfl rfl ?_
    apply wl_store tt_ok; rfl; exact (Upd.there Upd.here); rfl; rfl; rfl; rfl; rfl; rfl
    refine wl_nil ?_
    refine wx_then ?_
    refine wc_seq ?_
    refine wc_region ?_
    refine wl_pure tt_ok rfl rfl ?_
    replace h := bsome h; obtain ⟨⟨o93_0, v93⟩, x93, h⟩ := h; try dsimp only at h
    refine wl_cs Tryd.call50 rfl rfl rfl (s_sp (k_hindcastref02_Reader_Number x93) (pCons Sel.hc pNil) (fun _ _ => trivial)) rfl ?_
    rintro _ _ ⟨_, ⟨rfl, rfl⟩, rfl⟩
    refine wl_pure (v := .int .u8 (IntKind.wrap .u8 v93)) tt_ok rfl rfl ?_
    refine wl_pure (v := .pointer (some ⟨b10, 5, none⟩)) tt_ok rfl rfl ?_
    apply wl_store tt_ok; rfl; exact (Upd.there Upd.here); rfl; rfl; rfl; rfl; rfl; rfl
    refine wl_nil ?_
    refine wx_then ?_
    refine wc_region ?_
    refine wl_pure (v := .pointer (some ⟨b5, 16, none⟩)) tt_ok rfl rfl ?_
    refine wl_val (v := .slice j64_n5_f3a0 j64_n5_f3n0 j64_n5_f3c0) (val_load tt_ok rfl (List.Mem.tail _ (List.Mem.tail _ (List.Mem.tail _ (List.Mem.head _)))) rfl) rfl ?_
    refine wl_val (v := .agg #[.int .i32 v77, .int .i32 v80, .int .i32 v83, .int .i32 v86, .int .u8 (IntKind.wrap .u8 v89), .int .u8 (IntKind.wrap .u8 v93)]) (val_load tt_ok rfl (List.Mem.tail _ (List.Mem.head _)) rfl) rfl ?_
    refine wl_chg (chg_bsv (enc := c_T_api_Shot) (xs := ([(T_api_Shot.mk v77 v80 v83 v86 (IntKind.wrap .u8 v89) (IntKind.wrap .u8 v93))] : List T_api_Shot)) tt_ok rfl rfl rfl rfl rfl rfl rfl rfl c_T_api_Shot_len) rfl ?_
    rintro _ _ ⟨a99, n99_, c99, B99, rfl, N99, V99, rfl⟩
    replace h := bsome h; obtain ⟨v100, x100, h⟩ := h
    refine wl_chg (chg_app (enc := c_T_api_Shot) (ys := ([(T_api_Shot.mk v77 v80 v83 v86 (IntKind.wrap .u8 v89) (IntKind.wrap .u8 v93))] : List T_api_Shot)) tt_ok rfl rfl rfl rfl rfl rfl j64_n5_f3N0 N99 j64_n5_f3V0 (Sel.sa (Sel.sc (Sel.sc (Sel.sc (Sel.sc Sel.ha))))) (Rds.of_vec V99) ⟨_, Sel.ha⟩ c_T_api_Shot_len (fun _ => rfl) rfl x100) rfl ?_
    rintro _ _ ⟨a100, n100_, c100, B100, rfl, N100, V100, rfl⟩
    refine wl_pure (v := .pointer (some ⟨b5, 16, none⟩)) tt_ok rfl rfl ?_
    apply wl_store tt_ok; rfl; exact (Upd.right (Upd.right (Upd.there (Upd.there (Upd.there Upd.here))))); rfl; rfl; rfl; rfl; rfl; rfl
    refine wl_nil ?_
    refine wx_block ?_
    refine wx_then ?_
    refine wc_region ?_
    refine wl_pure tt_ok rfl rfl ?_
    refine wl_pure (v := .int .i64 (IntKind.wrap .i64 (j64_9 + (1 : Int)))) tt_ok rfl rfl ?_
    refine wl_pure tt_ok rfl rfl ?_
    refine wl_nil ?_
    exact wx_round m64 (Nat.lt_succ_self m64) ⟨(IntKind.wrap .i64 (j64_9 + (1 : Int))), o93_0, v100, a100, n100_, c100, B100, h, N100, V100, rfl, rfl⟩ (agree_cons rfl (agree_cons rfl (agree_cons rfl (agree_cons rfl (agree_cons rfl (agree_cons rfl agree_nil)))))) (pSub (pCons (Sel.sa (Sel.sa (Sel.sc (Sel.sc Sel.hc)))) (pCons (Sel.sa (Sel.sa Sel.hc)) (pCons (Sel.sa (Sel.sa (Sel.sc Sel.hc))) (pApp Sel.ha pNil)))))
  replace h := cf hc h
  refine wc_exit ?_
  refine wx_then_exit ?_
  simp only [Option.some.injEq, Prod.mk.injEq] at h
  obtain ⟨rfl, rfl⟩ := h
  have h := hl64; clear hl64; try dsimp only [orE_l, orE_r] at h
  refine wx_then_exit ?_
  refine wx_block_exit ?_
  refine wx_then ?_
  refine wc_seq ?_
  refine wc_region ?_
  refine wl_pure tt_ok rfl rfl ?_
  replace h := bsome h; obtain ⟨⟨o103_0, v103⟩, x103, h⟩ := h; try dsimp only at h
  refine wl_cs Tryd.call50 rfl rfl rfl (s_sp (k_hindcastref02_Reader_Number x103) (pCons (Sel.sc Sel.hc) pNil) (fun _ _ => trivial)) rfl ?_
  rintro _ _ ⟨_, ⟨rfl, rfl⟩, rfl⟩
  refine wl_pure (v := .int .u16 (IntKind.wrap .u16 v103)) tt_ok rfl rfl ?_
  refine wl_pure (v := .pointer (some ⟨b5, 17, none⟩)) tt_ok rfl rfl ?_
  refine wl_val (v := .pointer (some ⟨b5, 17, none⟩)) (val_ia (j := 0) tt_ok rfl rfl rfl rfl rfl rfl rfl) rfl ?_
  apply wl_store tt_ok; rfl; exact (Upd.there (Upd.there Upd.here)); rfl; rfl; rfl; rfl; rfl; rfl
  refine wl_nil ?_
  refine wx_then ?_
  refine wc_seq ?_
  refine wc_region ?_
  refine wl_pure tt_ok rfl rfl ?_
  replace h := bsome h; obtain ⟨⟨o108_0, v108⟩, x108, h⟩ := h; try dsimp only at h
  refine wl_cs Tryd.call50 rfl rfl rfl (s_sp (k_hindcastref02_Reader_Number x108) (pCons Sel.hc pNil) (fun _ _ => trivial)) rfl ?_
  rintro _ _ ⟨_, ⟨rfl, rfl⟩, rfl⟩
  refine wl_pure (v := .int .u16 (IntKind.wrap .u16 v108)) tt_ok rfl rfl ?_
  refine wl_pure (v := .pointer (some ⟨b5, 17, none⟩)) tt_ok rfl rfl ?_
  refine wl_val (v := .pointer (some ⟨b5, 18, none⟩)) (val_ia (j := 1) tt_ok rfl rfl rfl rfl rfl rfl rfl) rfl ?_
  apply wl_store tt_ok; rfl; exact (Upd.there (Upd.there Upd.here)); rfl; rfl; rfl; rfl; rfl; rfl
  refine wl_nil ?_
  refine wx_then ?_
  refine wc_seq ?_
  refine wc_seq ?_
  refine wc_region ?_
  refine wl_pure tt_ok rfl rfl ?_
  refine wl_pure tt_ok rfl rfl ?_
  refine wl_pure (v := .pointer (some ⟨b13, 2, none⟩)) tt_ok rfl rfl ?_
  refine wl_val (v := .int .i64 o108_0.E) (val_load tt_ok rfl (List.Mem.head _) rfl) rfl ?_
  refine wl_pure (v := .bool (o108_0.E != (0 : Int))) tt_ok rfl rfl ?_
  refine wl_nil ?_
  refine wx_then ?_
  refine wc_cond rfl (fun hc => ?_) (fun hc => ?_)
  · replace h := ct hc h
    refine wc_seq ?_
    refine wc_k2 (Ls := (⟨b13, [.string ⟨o108_0.S.toArray⟩, .int .i64 o108_0.At, .int .i64 o108_0.E], 84, (0, 0)⟩ :: (⟨b5, [.int .u64 v16, .int .u64 v19, .int .i32 j15_n5_f2.1.X, .int .i32 j15_n5_f2.1.Y, .int .i32 j15_n5_f2.1.VX, .int .i32 j15_n5_f2.1.VY, .int .u8 j15_n5_f2.1.Health, .int .u8 j15_n5_f2.1.Cool, .int .u8 j15_n5_f2.1.Face, .int .i32 j15_n5_f2.2.X, .int .i32 j15_n5_f2.2.Y, .int .i32 j15_n5_f2.2.VX, .int .i32 j15_n5_f2.2.VY, .int .u8 j15_n5_f2.2.Health, .int .u8 j15_n5_f2.2.Cool, .int .u8 j15_n5_f2.2.Face, .slice j64_n5_f3a0 j64_n5_f3n0 j64_n5_f3c0, .int .u16 (IntKind.wrap .u16 v103), .int .u16 (IntKind.wrap .u16 v108)], 30, (0, 0)⟩ :: (j64_n5_f3B0 ++ [])))) [5, 6] [6] [0, 0, 2, 6, 14, 1, 63] [0, 1, 2, 3, 4, 5, 6] (by kernel_rfl) (by kernel_rfl) (by kernel_rfl) ?_
    refine k_val (v := .agg #[.int .u64 (0 : Int), .int .u64 (0 : Int), .int .i32 (0 : Int), .int .i32 (0 : Int), .int .i32 (0 : Int), .int .i32 (0 : Int), .int .u8 (0 : Int), .int .u8 (0 : Int), .int .u8 (0 : Int), .int .i32 (0 : Int), .int .i32 (0 : Int), .int .i32 (0 : Int), .int .i32 (0 : Int), .int .u8 (0 : Int), .int .u8 (0 : Int), .int .u8 (0 : Int), .slice none 0 0, .int .u16 (0 : Int), .int .u16 (0 : Int)]) rfl rfl rfl (pSub (pCons Sel.hc (pCons (Sel.sc Sel.hc) (pApp (Sel.sc Sel.ha) pNil)))) (stepV_ok tt_ok rfl) rfl ?_
    refine k_val rfl rfl rfl (pSub (pCons Sel.hc (pCons (Sel.sc Sel.hc) (pApp (Sel.sc Sel.ha) pNil)))) (stepV_ok tt_ok rfl) rfl ?_
    refine k_val rfl rfl rfl (pSub (pCons Sel.hc (pCons (Sel.sc Sel.hc) (pApp (Sel.sc Sel.ha) pNil)))) (stepV_ok tt_ok rfl) rfl ?_
    refine k_val (v := .pointer (some ⟨b13, 2, none⟩)) rfl rfl rfl (pSub (pCons Sel.hc (pCons (Sel.sc Sel.hc) (pApp (Sel.sc Sel.ha) pNil)))) (stepV_ok tt_ok rfl) rfl ?_
    refine k_val (v := .int .i64 o108_0.E) rfl rfl rfl (pSub (pCons Sel.hc (pCons (Sel.sc Sel.hc) (pApp (Sel.sc Sel.ha) pNil)))) (val_load tt_ok rfl (List.Mem.head _) rfl) rfl ?_
    refine k_chg0 rfl rfl rfl (chg_store tt_ok rfl (Upd.there Upd.here) rfl rfl rfl rfl rfl rfl) (.inr (by rintro _ _ rfl; exact ⟨_, (pCons Sel.hc (pCons (Sel.sc Sel.hc) (pApp (Sel.sc Sel.ha) pNil)))⟩)) ?_
    rintro _ _ rfl
    refine k_chg rfl rfl rfl (Chg.of_val (stepV_ok tt_ok rfl)) rfl (.inl rfl) ?_
    rintro _ _ ⟨rfl, rfl⟩
    refine k_end (by kernel_rfl) ?_
    refine wx_then ?_
    refine wc_ret ?_
    refine wx_then_ret ?_
    simp only [Option.some.injEq, Prod.mk.injEq] at h
    obtain ⟨rfl, rfl⟩ := h
    exact wx_spD tt_ok (.inl rfl) Tryd.results19 (Res.cell rfl (List.Mem.tail _ (List.Mem.head _)) rfl (Res.tmp rfl Res.nil)) ⟨none, 0, 0, [], rfl, Own.zero, rfl, rfl⟩ (fun F => by simp) (pSub (pNo pNil))
  replace h := cf hc h
  refine wc_skip ?_
  refine wx_then ?_
  refine wc_seq ?_
  refine wc_seq ?_
  refine wc_region ?_
  refine wl_pure tt_ok rfl rfl ?_
  replace h := bsome h; obtain ⟨v123, x123, h⟩ := h
  refine wl_cq Tryd.call53 rfl rfl rfl (q_rd (k_hindcastref02_Reader_Rest x123) (pCons Sel.hc pNil) (fun _ _ => trivial)) rfl ?_
  refine wl_val (v := .bool (!(v123 == ([] : List UInt8)))) (val_sne tt_ok rfl rfl) rfl ?_
  refine wl_pure tt_ok rfl rfl ?_
  replace h := bsome h; obtain ⟨v129, h, hg129⟩ := h
  refine wl_split (t := 125) rfl (fun hc => ?_) (fun hc => ?_)
  · replace h := ct hc h
    refine wl_skip rfl rfl ?_
    refine wl_skip rfl rfl ?_
    refine wl_skip rfl rfl ?_
    simp only [Option.some.injEq, Prod.mk.injEq] at h
    obtain rfl := h
    have h := hg129; clear hg129
    refine wl_pure (v := .bool true) tt_ok rfl rfl ?_
    refine wl_nil ?_
    refine wx_then ?_
    replace h := ct rfl h
    refine wc_cond_true rfl ?_
    refine wc_seq ?_
    refine wc_region ?_
    refine wl_pure (v := .agg #[.int .u64 (0 : Int), .int .u64 (0 : Int), .int .i32 (0 : Int), .int .i32 (0 : Int), .int .i32 (0 : Int), .int .i32 (0 : Int), .int .u8 (0 : Int), .int .u8 (0 : Int), .int .u8 (0 : Int), .int .i32 (0 : Int), .int .i32 (0 : Int), .int .i32 (0 : Int), .int .i32 (0 : Int), .int .u8 (0 : Int), .int .u8 (0 : Int), .int .u8 (0 : Int), .slice none 0 0, .int .u16 (0 : Int), .int .u16 (0 : Int)]) tt_ok rfl rfl ?_
    apply wl_store tt_ok; rfl; exact (Upd.there Upd.here); rfl; rfl; rfl; rfl; rfl; rfl
    refine wl_pure tt_ok rfl rfl ?_
    refine wl_nil ?_
    refine wx_then ?_
    refine wc_ret ?_
    refine wx_then_ret ?_
    simp only [Option.some.injEq, Prod.mk.injEq] at h
    obtain ⟨rfl, rfl⟩ := h
    exact wx_spD tt_ok (.inl rfl) Tryd.results19 (Res.cell rfl (List.Mem.tail _ (List.Mem.head _)) rfl (Res.tmp rfl Res.nil)) ⟨none, 0, 0, [], rfl, Own.zero, rfl, rfl⟩ (fun F => by simp) (pSub (pNo pNil))
  replace h := cf hc h
  refine wl_run rfl ?_
  refine wl_val (v := .agg #[.int .u64 v16, .int .u64 v19, .int .i32 j15_n5_f2.1.X, .int .i32 j15_n5_f2.1.Y, .int .i32 j15_n5_f2.1.VX, .int .i32 j15_n5_f2.1.VY, .int .u8 j15_n5_f2.1.Health, .int .u8 j15_n5_f2.1.Cool, .int .u8 j15_n5_f2.1.Face, .int .i32 j15_n5_f2.2.X, .int .i32 j15_n5_f2.2.Y, .int .i32 j15_n5_f2.2.VX, .int .i32 j15_n5_f2.2.VY, .int .u8 j15_n5_f2.2.Health, .int .u8 j15_n5_f2.2.Cool, .int .u8 j15_n5_f2.2.Face, .slice j64_n5_f3a0 j64_n5_f3n0 j64_n5_f3c0, .int .u16 (IntKind.wrap .u16 v103), .int .u16 (IntKind.wrap .u16 v108)]) (val_load tt_ok rfl (List.Mem.tail _ (List.Mem.tail _ (List.Mem.head _))) rfl) rfl ?_
  replace h := bsome h; obtain ⟨v127, x127, h⟩ := h
  refine wl_run rfl ?_
  refine wl_cq Tryd.call12 rfl rfl rfl (q_pf (k_hindcastref08_Check (p0 := (T_api_State.mk v16 v19 j15_n5_f2 j64_n5_f3 ((IntKind.wrap .u16 v103), (IntKind.wrap .u16 v108)))) j64_n5_f3N0 (vec_cap j64_n5_f3V0) x127) (Rds.call (Rds.of_vec j64_n5_f3V0) pNil ⟨_, (Sel.sc (Sel.sc (Sel.sc Sel.ha)))⟩)) rfl ?_
  refine wl_run rfl ?_
  refine wl_pure (v := .bool (v127 != (0 : Int))) tt_ok rfl rfl ?_
  simp only [Option.some.injEq, Prod.mk.injEq] at h
  obtain rfl := h
  have h := hg129; clear hg129
  refine wl_pure (v := .bool (v127 != (0 : Int))) tt_ok rfl rfl ?_
  refine wl_nil ?_
  refine wx_then ?_
  refine wc_cond rfl (fun hc => ?_) (fun hc => ?_)
  · replace h := ct hc h
    refine wc_seq ?_
    refine wc_region ?_
    refine wl_pure (v := .agg #[.int .u64 (0 : Int), .int .u64 (0 : Int), .int .i32 (0 : Int), .int .i32 (0 : Int), .int .i32 (0 : Int), .int .i32 (0 : Int), .int .u8 (0 : Int), .int .u8 (0 : Int), .int .u8 (0 : Int), .int .i32 (0 : Int), .int .i32 (0 : Int), .int .i32 (0 : Int), .int .i32 (0 : Int), .int .u8 (0 : Int), .int .u8 (0 : Int), .int .u8 (0 : Int), .slice none 0 0, .int .u16 (0 : Int), .int .u16 (0 : Int)]) tt_ok rfl rfl ?_
    apply wl_store tt_ok; rfl; exact (Upd.there Upd.here); rfl; rfl; rfl; rfl; rfl; rfl
    refine wl_pure tt_ok rfl rfl ?_
    refine wl_nil ?_
    refine wx_then ?_
    refine wc_ret ?_
    refine wx_then_ret ?_
    simp only [Option.some.injEq, Prod.mk.injEq] at h
    obtain ⟨rfl, rfl⟩ := h
    exact wx_spD tt_ok (.inl rfl) Tryd.results19 (Res.cell rfl (List.Mem.tail _ (List.Mem.head _)) rfl (Res.tmp rfl Res.nil)) ⟨none, 0, 0, [], rfl, Own.zero, rfl, rfl⟩ (fun F => by simp) (pSub (pNo pNil))
  replace h := cf hc h
  refine wc_skip ?_
  refine wx_then ?_
  refine wc_seq ?_
  refine wc_region ?_
  refine wl_val (v := .agg #[.int .u64 v16, .int .u64 v19, .int .i32 j15_n5_f2.1.X, .int .i32 j15_n5_f2.1.Y, .int .i32 j15_n5_f2.1.VX, .int .i32 j15_n5_f2.1.VY, .int .u8 j15_n5_f2.1.Health, .int .u8 j15_n5_f2.1.Cool, .int .u8 j15_n5_f2.1.Face, .int .i32 j15_n5_f2.2.X, .int .i32 j15_n5_f2.2.Y, .int .i32 j15_n5_f2.2.VX, .int .i32 j15_n5_f2.2.VY, .int .u8 j15_n5_f2.2.Health, .int .u8 j15_n5_f2.2.Cool, .int .u8 j15_n5_f2.2.Face, .slice j64_n5_f3a0 j64_n5_f3n0 j64_n5_f3c0, .int .u16 (IntKind.wrap .u16 v103), .int .u16 (IntKind.wrap .u16 v108)]) (val_load tt_ok rfl (List.Mem.tail _ (List.Mem.tail _ (List.Mem.head _))) rfl) rfl ?_
  apply wl_store tt_ok; rfl; exact (Upd.there Upd.here); rfl; rfl; rfl; rfl; rfl; rfl
  refine wl_pure tt_ok rfl rfl ?_
  refine wl_nil ?_
  refine wx_then ?_
  refine wc_ret ?_
  simp only [Option.some.injEq, Prod.mk.injEq] at h
  obtain ⟨rfl, rfl⟩ := h
  exact wx_spD tt_ok (.inl rfl) Tryd.results19 (Res.cell rfl (List.Mem.tail _ (List.Mem.head _)) rfl (Res.tmp rfl Res.nil)) ⟨j64_n5_f3a0, j64_n5_f3n0, j64_n5_f3c0, j64_n5_f3B0, j64_n5_f3N0, j64_n5_f3V0, rfl, rfl⟩ (fun F => by simp) (pSub (pApp (Sel.sc (Sel.sc (Sel.sc Sel.ha))) pNil))

theorem k_hindcastref08_Same {F : Nat} {p0 : T_api_State} {p0a0 : Option Addr} {p0n0 p0c0 : Nat} {p1 : T_api_State} {p1a0 : Option Addr} {p1n0 p1c0 : Nat} {r0 : Bool} (p0N0 : p0n0 = p0.Shots.length) (p0H0 : p0n0 ≤ p0c0) (p1N0 : p1n0 = p1.Shots.length) (p1H0 : p1n0 ≤ p1c0) (h : m_hindcastref08_Same F p0 p1 = some r0) :
    Pf Tryd.prog 15 [.agg #[.int .u64 p0.Frame, .int .u64 p0.Seed, .int .i32 p0.Players.1.X, .int .i32 p0.Players.1.Y, .int .i32 p0.Players.1.VX, .int .i32 p0.Players.1.VY, .int .u8 p0.Players.1.Health, .int .u8 p0.Players.1.Cool, .int .u8 p0.Players.1.Face, .int .i32 p0.Players.2.X, .int .i32 p0.Players.2.Y, .int .i32 p0.Players.2.VX, .int .i32 p0.Players.2.VY, .int .u8 p0.Players.2.Health, .int .u8 p0.Players.2.Cool, .int .u8 p0.Players.2.Face, .slice p0a0 p0n0 p0c0, .int .u16 p0.Score.1, .int .u16 p0.Score.2], .agg #[.int .u64 p1.Frame, .int .u64 p1.Seed, .int .i32 p1.Players.1.X, .int .i32 p1.Players.1.Y, .int .i32 p1.Players.1.VX, .int .i32 p1.Players.1.VY, .int .u8 p1.Players.1.Health, .int .u8 p1.Players.1.Cool, .int .u8 p1.Players.1.Face, .int .i32 p1.Players.2.X, .int .i32 p1.Players.2.Y, .int .i32 p1.Players.2.VX, .int .i32 p1.Players.2.VY, .int .u8 p1.Players.2.Health, .int .u8 p1.Players.2.Cool, .int .u8 p1.Players.2.Face, .slice p1a0 p1n0 p1c0, .int .u16 p1.Score.1, .int .u16 p1.Score.2]] (fun w => Rds w [] [] p0a0 (flat c_T_api_Shot p0.Shots) ∧ Rds w [] [] p1a0 (flat c_T_api_Shot p1.Shots)) (.bool r0) := by
  unfold m_hindcastref08_Same at h
  refine pf_of_wc Tryd.func15 rfl Tryd.ntmps15 rfl rfl (fun w0 hR => ?_)
  obtain ⟨p0S0, p1S0⟩ := hR
  refine wc_seq ?_
  refine wc_region ?_
  refine wl_box rfl rfl rfl (fun b2 => ?_)
  refine wl_box rfl rfl rfl (fun b3 => ?_)
  refine wl_pure tt_ok rfl rfl ?_
  refine wl_nil ?_
  refine wx_then ?_
  refine wc_seq ?_
  refine wc_seq ?_
  refine wc_region ?_
  refine wl_pure (v := .pointer (some ⟨b2, 0, none⟩)) tt_ok rfl rfl ?_
  refine wl_val (v := .int .u64 p0.Frame) (val_load tt_ok rfl (List.Mem.tail _ (List.Mem.head _)) rfl) rfl ?_
  refine wl_pure (v := .pointer (some ⟨b3, 0, none⟩)) tt_ok rfl rfl ?_
  refine wl_val (v := .int .u64 p1.Frame) (val_load tt_ok rfl (List.Mem.head _) rfl) rfl ?_
  refine wl_pure (v := .bool (p0.Frame != p1.Frame)) tt_ok rfl rfl ?_
  refine wl_pure tt_ok rfl rfl ?_
  replace h := bsome h; obtain ⟨v17, h, hg17⟩ := h
  refine wl_split (t := 11) rfl (fun hc => ?_) (fun hc => ?_)
  · replace h := ct hc h
    refine wl_skip rfl rfl ?_
    refine wl_skip rfl rfl ?_
    refine wl_skip rfl rfl ?_
    refine wl_skip rfl rfl ?_
    refine wl_skip rfl rfl ?_
    simp only [Option.some.injEq, Prod.mk.injEq] at h
    obtain rfl := h
    have h := hg17; clear hg17
    refine wl_pure (v := .bool true) tt_ok rfl rfl ?_
    refine wl_pure tt_ok rfl rfl ?_
    replace h := bsome h; obtain ⟨v26, h, hg26⟩ := h
    replace h := ct rfl h
    refine wl_skip rfl rfl ?_
    refine wl_skip rfl rfl ?_
    refine wl_skip rfl rfl ?_
    refine wl_skip rfl rfl ?_
    refine wl_skip rfl rfl ?_
    refine wl_skip rfl rfl ?_
    refine wl_skip rfl rfl ?_
    simp only [Option.some.injEq, Prod.mk.injEq] at h
    obtain rfl := h
    have h := hg26; clear hg26
    refine wl_pure (v := .bool true) tt_ok rfl rfl ?_
    refine wl_pure tt_ok rfl rfl ?_
    replace h := bsome h; obtain ⟨v35, h, hg35⟩ := h
    replace h := ct rfl h
    refine wl_skip rfl rfl ?_
    refine wl_skip rfl rfl ?_
    refine wl_skip rfl rfl ?_
    refine wl_skip rfl rfl ?_
    refine wl_skip rfl rfl ?_
    refine wl_skip rfl rfl ?_
    refine wl_skip rfl rfl ?_
    simp only [Option.some.injEq, Prod.mk.injEq] at h
    obtain rfl := h
    have h := hg35; clear hg35
    refine wl_pure (v := .bool true) tt_ok rfl rfl ?_
    refine wl_pure tt_ok rfl rfl ?_
    replace h := bsome h; obtain ⟨v42, h, hg42⟩ := h
    replace h := ct rfl h
    refine wl_skip rfl rfl ?_
    refine wl_skip rfl rfl ?_
    refine wl_skip rfl rfl ?_
    refine wl_skip rfl rfl ?_
    refine wl_skip rfl rfl ?_
    simp only [Option.some.injEq, Prod.mk.injEq] at h
    obtain rfl := h
    have h := hg42; clear hg42
    refine wl_pure (v := .bool true) tt_ok rfl rfl ?_
    refine wl_pure tt_ok rfl rfl ?_
    replace h := bsome h; obtain ⟨v51, h, hg51⟩ := h
    replace h := ct rfl h
    refine wl_skip rfl rfl ?_
    refine wl_skip rfl rfl ?_
    refine wl_skip rfl rfl ?_
    refine wl_skip rfl rfl ?_
    refine wl_skip rfl rfl ?_
    refine wl_skip rfl rfl ?_
    refine wl_skip rfl rfl ?_
    simp only [Option.some.injEq, Prod.mk.injEq] at h
    obtain rfl := h
    have h := hg51; clear hg51
    refine wl_pure (v := .bool true) tt_ok rfl rfl ?_
    refine wl_nil ?_
    refine wx_then ?_
    replace h := ct rfl h
    refine wc_cond_true rfl ?_
    refine wc_seq ?_
    refine wc_region ?_
    refine wl_pure tt_ok rfl rfl ?_
    refine wl_nil ?_
    refine wx_then ?_
    refine wc_ret ?_
    refine wx_then_ret ?_
    simp only [Option.some.injEq] at h
    obtain rfl := h
    exact wx_pf tt_ok (.inl rfl) Tryd.results15 (Res.tmp rfl Res.nil) rfl
  replace h := cf hc h
  refine wl_run rfl ?_
  refine wl_pure (v := .pointer (some ⟨b2, 1, none⟩)) tt_ok rfl rfl ?_
  refine wl_run rfl ?_
  refine wl_val (v := .int .u64 p0.Seed) (val_load tt_ok rfl (List.Mem.tail _ (List.Mem.head _)) rfl) rfl ?_
  refine wl_run rfl ?_
  refine wl_pure (v := .pointer (some ⟨b3, 1, none⟩)) tt_ok rfl rfl ?_
  refine wl_run rfl ?_
  refine wl_val (v := .int .u64 p1.Seed) (val_load tt_ok rfl (List.Mem.head _) rfl) rfl ?_
  refine wl_run rfl ?_
  refine wl_pure (v := .bool (p0.Seed != p1.Seed)) tt_ok rfl rfl ?_
  simp only [Option.some.injEq, Prod.mk.injEq] at h
  obtain rfl := h
  have h := hg17; clear hg17
  refine wl_pure (v := .bool (p0.Seed != p1.Seed)) tt_ok rfl rfl ?_
  refine wl_pure tt_ok rfl rfl ?_
  replace h := bsome h; obtain ⟨v26, h, hg26⟩ := h
  refine wl_split (t := 18) rfl (fun hc => ?_) (fun hc => ?_)
  · replace h := ct hc h
    refine wl_skip rfl rfl ?_
    refine wl_skip rfl rfl ?_
    refine wl_skip rfl rfl ?_
    refine wl_skip rfl rfl ?_
    refine wl_skip rfl rfl ?_
    refine wl_skip rfl rfl ?_
    refine wl_skip rfl rfl ?_
    simp only [Option.some.injEq, Prod.mk.injEq] at h
    obtain rfl := h
    have h := hg26; clear hg26
    refine wl_pure (v := .bool true) tt_ok rfl rfl ?_
    refine wl_pure tt_ok rfl rfl ?_
    replace h := bsome h; obtain ⟨v35, h, hg35⟩ := h
    replace h := ct rfl h
    refine wl_skip rfl rfl ?_
    refine wl_skip rfl rfl ?_
    refine wl_skip rfl rfl ?_
    refine wl_skip rfl rfl ?_
    refine wl_skip rfl rfl ?_
    refine wl_skip rfl rfl ?_
    refine wl_skip rfl rfl ?_
    simp only [Option.some.injEq, Prod.mk.injEq] at h
    obtain rfl := h
    have h := hg35; clear hg35
    refine wl_pure (v := .bool true) tt_ok rfl rfl ?_
    refine wl_pure tt_ok rfl rfl ?_
    replace h := bsome h; obtain ⟨v42, h, hg42⟩ := h
    replace h := ct rfl h
    refine wl_skip rfl rfl ?_
    refine wl_skip rfl rfl ?_
    refine wl_skip rfl rfl ?_
    refine wl_skip rfl rfl ?_
    refine wl_skip rfl rfl ?_
    simp only [Option.some.injEq, Prod.mk.injEq] at h
    obtain rfl := h
    have h := hg42; clear hg42
    refine wl_pure (v := .bool true) tt_ok rfl rfl ?_
    refine wl_pure tt_ok rfl rfl ?_
    replace h := bsome h; obtain ⟨v51, h, hg51⟩ := h
    replace h := ct rfl h
    refine wl_skip rfl rfl ?_
    refine wl_skip rfl rfl ?_
    refine wl_skip rfl rfl ?_
    refine wl_skip rfl rfl ?_
    refine wl_skip rfl rfl ?_
    refine wl_skip rfl rfl ?_
    refine wl_skip rfl rfl ?_
    simp only [Option.some.injEq, Prod.mk.injEq] at h
    obtain rfl := h
    have h := hg51; clear hg51
    refine wl_pure (v := .bool true) tt_ok rfl rfl ?_
    refine wl_nil ?_
    refine wx_then ?_
    replace h := ct rfl h
    refine wc_cond_true rfl ?_
    refine wc_seq ?_
    refine wc_region ?_
    refine wl_pure tt_ok rfl rfl ?_
    refine wl_nil ?_
    refine wx_then ?_
    refine wc_ret ?_
    refine wx_then_ret ?_
    simp only [Option.some.injEq] at h
    obtain rfl := h
    exact wx_pf tt_ok (.inl rfl) Tryd.results15 (Res.tmp rfl Res.nil) rfl
  replace h := cf hc h
  refine wl_run rfl ?_
  refine wl_pure (v := .pointer (some ⟨b2, 2, none⟩)) tt_ok rfl rfl ?_
  refine wl_run rfl ?_
  refine wl_val (v := .pointer (some ⟨b2, 2, none⟩)) (val_ia (j := 0) tt_ok rfl rfl rfl rfl rfl rfl rfl) rfl ?_
  refine wl_run rfl ?_
  refine wl_val (v := .agg #[.int .i32 p0.Players.1.X, .int .i32 p0.Players.1.Y, .int .i32 p0.Players.1.VX, .int .i32 p0.Players.1.VY, .int .u8 p0.Players.1.Health, .int .u8 p0.Players.1.Cool, .int .u8 p0.Players.1.Face]) (val_load tt_ok rfl (List.Mem.tail _ (List.Mem.head _)) rfl) rfl ?_
  refine wl_run rfl ?_
  refine wl_pure (v := .pointer (some ⟨b3, 2, none⟩)) tt_ok rfl rfl ?_
  refine wl_run rfl ?_
  refine wl_val (v := .pointer (some ⟨b3, 2, none⟩)) (val_ia (j := 0) tt_ok rfl rfl rfl rfl rfl rfl rfl) rfl ?_
  refine wl_run rfl ?_
  refine wl_val (v := .agg #[.int .i32 p1.Players.1.X, .int .i32 p1.Players.1.Y, .int .i32 p1.Players.1.VX, .int .i32 p1.Players.1.VY, .int .u8 p1.Players.1.Health, .int .u8 p1.Players.1.Cool, .int .u8 p1.Players.1.Face]) (val_load tt_ok rfl (List.Mem.head _) rfl) rfl ?_
  refine wl_run rfl ?_
  refine wl_val (v := .bool (!((p0.Players.1.X == p1.Players.1.X) && ((p0.Players.1.Y == p1.Players.1.Y) && ((p0.Players.1.VX == p1.Players.1.VX) && ((p0.Players.1.VY == p1.Players.1.VY) && ((p0.Players.1.Health == p1.Players.1.Health) && ((p0.Players.1.Cool == p1.Players.1.Cool) && (p0.Players.1.Face == p1.Players.1.Face))))))))) (val_nes tt_ok tt_eq tt_one Tryd.eqGuardType24 rfl rfl rfl rfl rfl) rfl ?_
  simp only [Option.some.injEq, Prod.mk.injEq] at h
  obtain rfl := h
  have h := hg26; clear hg26
  refine wl_pure (v := .bool (!((p0.Players.1.X == p1.Players.1.X) && ((p0.Players.1.Y == p1.Players.1.Y) && ((p0.Players.1.VX == p1.Players.1.VX) && ((p0.Players.1.VY == p1.Players.1.VY) && ((p0.Players.1.Health == p1.Players.1.Health) && ((p0.Players.1.Cool == p1.Players.1.Cool) && (p0.Players.1.Face == p1.Players.1.Face))))))))) tt_ok rfl rfl ?_
  refine wl_pure tt_ok rfl rfl ?_
  replace h := bsome h; obtain ⟨v35, h, hg35⟩ := h
  refine wl_split (t := 27) rfl (fun hc => ?_) (fun hc => ?_)
  · replace h := ct hc h
    refine wl_skip rfl rfl ?_
    refine wl_skip rfl rfl ?_
    refine wl_skip rfl rfl ?_
    refine wl_skip rfl rfl ?_
    refine wl_skip rfl rfl ?_
    refine wl_skip rfl rfl ?_
    refine wl_skip rfl rfl ?_
    simp only [Option.some.injEq, Prod.mk.injEq] at h
    obtain rfl := h
    have h := hg35; clear hg35
    refine wl_pure (v := .bool true) tt_ok rfl rfl ?_
    refine wl_pure tt_ok rfl rfl ?_
    replace h := bsome h; obtain ⟨v42, h, hg42⟩ := h
    replace h := ct rfl h
    refine wl_skip rfl rfl ?_
    refine wl_skip rfl rfl ?_
    refine wl_skip rfl rfl ?_
    refine wl_skip rfl rfl ?_
    refine wl_skip rfl rfl ?_
    simp only [Option.some.injEq, Prod.mk.injEq] at h
    obtain rfl := h
    have h := hg42; clear hg42
    refine wl_pure (v := .bool true) tt_ok rfl rfl ?_
    refine wl_pure tt_ok rfl rfl ?_
    replace h := bsome h; obtain ⟨v51, h, hg51⟩ := h
    replace h := ct rfl h
    refine wl_skip rfl rfl ?_
    refine wl_skip rfl rfl ?_
    refine wl_skip rfl rfl ?_
    refine wl_skip rfl rfl ?_
    refine wl_skip rfl rfl ?_
    refine wl_skip rfl rfl ?_
    refine wl_skip rfl rfl ?_
    simp only [Option.some.injEq, Prod.mk.injEq] at h
    obtain rfl := h
    have h := hg51; clear hg51
    refine wl_pure (v := .bool true) tt_ok rfl rfl ?_
    refine wl_nil ?_
    refine wx_then ?_
    replace h := ct rfl h
    refine wc_cond_true rfl ?_
    refine wc_seq ?_
    refine wc_region ?_
    refine wl_pure tt_ok rfl rfl ?_
    refine wl_nil ?_
    refine wx_then ?_
    refine wc_ret ?_
    refine wx_then_ret ?_
    simp only [Option.some.injEq] at h
    obtain rfl := h
    exact wx_pf tt_ok (.inl rfl) Tryd.results15 (Res.tmp rfl Res.nil) rfl
  replace h := cf hc h
  refine wl_run rfl ?_
  refine wl_pure (v := .pointer (some ⟨b2, 2, none⟩)) tt_ok rfl rfl ?_
  refine wl_run rfl ?_
  refine wl_val (v := .pointer (some ⟨b2, 9, none⟩)) (val_ia (j := 1) tt_ok rfl rfl rfl rfl rfl rfl rfl) rfl ?_
  refine wl_run rfl ?_
  refine wl_val (v := .agg #[.int .i32 p0.Players.2.X, .int .i32 p0.Players.2.Y, .int .i32 p0.Players.2.VX, .int .i32 p0.Players.2.VY, .int .u8 p0.Players.2.Health, .int .u8 p0.Players.2.Cool, .int .u8 p0.Players.2.Face]) (val_load tt_ok rfl (List.Mem.tail _ (List.Mem.head _)) rfl) rfl ?_
  refine wl_run rfl ?_
  refine wl_pure (v := .pointer (some ⟨b3, 2, none⟩)) tt_ok rfl rfl ?_
  refine wl_run rfl ?_
  refine wl_val (v := .pointer (some ⟨b3, 9, none⟩)) (val_ia (j := 1) tt_ok rfl rfl rfl rfl rfl rfl rfl) rfl ?_
  refine wl_run rfl ?_
  refine wl_val (v := .agg #[.int .i32 p1.Players.2.X, .int .i32 p1.Players.2.Y, .int .i32 p1.Players.2.VX, .int .i32 p1.Players.2.VY, .int .u8 p1.Players.2.Health, .int .u8 p1.Players.2.Cool, .int .u8 p1.Players.2.Face]) (val_load tt_ok rfl (List.Mem.head _) rfl) rfl ?_
  refine wl_run rfl ?_
  refine wl_val (v := .bool (!((p0.Players.2.X == p1.Players.2.X) && ((p0.Players.2.Y == p1.Players.2.Y) && ((p0.Players.2.VX == p1.Players.2.VX) && ((p0.Players.2.VY == p1.Players.2.VY) && ((p0.Players.2.Health == p1.Players.2.Health) && ((p0.Players.2.Cool == p1.Players.2.Cool) && (p0.Players.2.Face == p1.Players.2.Face))))))))) (val_nes tt_ok tt_eq tt_one Tryd.eqGuardType24 rfl rfl rfl rfl rfl) rfl ?_
  simp only [Option.some.injEq, Prod.mk.injEq] at h
  obtain rfl := h
  have h := hg35; clear hg35
  refine wl_pure (v := .bool (!((p0.Players.2.X == p1.Players.2.X) && ((p0.Players.2.Y == p1.Players.2.Y) && ((p0.Players.2.VX == p1.Players.2.VX) && ((p0.Players.2.VY == p1.Players.2.VY) && ((p0.Players.2.Health == p1.Players.2.Health) && ((p0.Players.2.Cool == p1.Players.2.Cool) && (p0.Players.2.Face == p1.Players.2.Face))))))))) tt_ok rfl rfl ?_
  refine wl_pure tt_ok rfl rfl ?_
  replace h := bsome h; obtain ⟨v42, h, hg42⟩ := h
  refine wl_split (t := 36) rfl (fun hc => ?_) (fun hc => ?_)
  · replace h := ct hc h
    refine wl_skip rfl rfl ?_
    refine wl_skip rfl rfl ?_
    refine wl_skip rfl rfl ?_
    refine wl_skip rfl rfl ?_
    refine wl_skip rfl rfl ?_
    simp only [Option.some.injEq, Prod.mk.injEq] at h
    obtain rfl := h
    have h := hg42; clear hg42
    refine wl_pure (v := .bool true) tt_ok rfl rfl ?_
    refine wl_pure tt_ok rfl rfl ?_
    replace h := bsome h; obtain ⟨v51, h, hg51⟩ := h
    replace h := ct rfl h
    refine wl_skip rfl rfl ?_
    refine wl_skip rfl rfl ?_
    refine wl_skip rfl rfl ?_
    refine wl_skip rfl rfl ?_
    refine wl_skip rfl rfl ?_
    refine wl_skip rfl rfl ?_
    refine wl_skip rfl rfl ?_
    simp only [Option.some.injEq, Prod.mk.injEq] at h
    obtain rfl := h
    have h := hg51; clear hg51
    refine wl_pure (v := .bool true) tt_ok rfl rfl ?_
    refine wl_nil ?_
    refine wx_then ?_
    replace h := ct rfl h
    refine wc_cond_true rfl ?_
    refine wc_seq ?_
    refine wc_region ?_
    refine wl_pure tt_ok rfl rfl ?_
    refine wl_nil ?_
    refine wx_then ?_
    refine wc_ret ?_
    refine wx_then_ret ?_
    simp only [Option.some.injEq] at h
    obtain rfl := h
    exact wx_pf tt_ok (.inl rfl) Tryd.results15 (Res.tmp rfl Res.nil) rfl
  replace h := cf hc h
  refine wl_run rfl ?_
  refine wl_pure (v := .pointer (some ⟨b2, 17, none⟩)) tt_ok rfl rfl ?_
  refine wl_run rfl ?_
  refine wl_val (v := .agg #[.int .u16 p0.Score.1, .int .u16 p0.Score.2]) (val_load tt_ok rfl (List.Mem.tail _ (List.Mem.head _)) rfl) rfl ?_
  refine wl_run rfl ?_
  refine wl_pure (v := .pointer (some ⟨b3, 17, none⟩)) tt_ok rfl rfl ?_
  refine wl_run rfl ?_
  refine wl_val (v := .agg #[.int .u16 p1.Score.1, .int .u16 p1.Score.2]) (val_load tt_ok rfl (List.Mem.head _) rfl) rfl ?_
  refine wl_run rfl ?_
  refine wl_val (v := .bool (!((p0.Score.1 == p1.Score.1) && (p0.Score.2 == p1.Score.2)))) (val_nes tt_ok tt_eq tt_one Tryd.eqGuardType28 rfl rfl rfl rfl rfl) rfl ?_
  simp only [Option.some.injEq, Prod.mk.injEq] at h
  obtain rfl := h
  have h := hg42; clear hg42
  refine wl_pure (v := .bool (!((p0.Score.1 == p1.Score.1) && (p0.Score.2 == p1.Score.2)))) tt_ok rfl rfl ?_
  refine wl_pure tt_ok rfl rfl ?_
  replace h := bsome h; obtain ⟨v51, h, hg51⟩ := h
  refine wl_split (t := 43) rfl (fun hc => ?_) (fun hc => ?_)
  · replace h := ct hc h
    refine wl_skip rfl rfl ?_
    refine wl_skip rfl rfl ?_
    refine wl_skip rfl rfl ?_
    refine wl_skip rfl rfl ?_
    refine wl_skip rfl rfl ?_
    refine wl_skip rfl rfl ?_
    refine wl_skip rfl rfl ?_
    simp only [Option.some.injEq, Prod.mk.injEq] at h
    obtain rfl := h
    have h := hg51; clear hg51
    refine wl_pure (v := .bool true) tt_ok rfl rfl ?_
    refine wl_nil ?_
    refine wx_then ?_
    replace h := ct rfl h
    refine wc_cond_true rfl ?_
    refine wc_seq ?_
    refine wc_region ?_
    refine wl_pure tt_ok rfl rfl ?_
    refine wl_nil ?_
    refine wx_then ?_
    refine wc_ret ?_
    refine wx_then_ret ?_
    simp only [Option.some.injEq] at h
    obtain rfl := h
    exact wx_pf tt_ok (.inl rfl) Tryd.results15 (Res.tmp rfl Res.nil) rfl
  replace h := cf hc h
  refine wl_run rfl ?_
  refine wl_pure (v := .pointer (some ⟨b2, 16, none⟩)) tt_ok rfl rfl ?_
  refine wl_run rfl ?_
  refine wl_val (v := .slice p0a0 p0n0 p0c0) (val_load tt_ok rfl (List.Mem.tail _ (List.Mem.head _)) rfl) rfl ?_
  refine wl_run rfl ?_
  refine wl_val (v := .int .i64 (p0.Shots.length : Int)) (val_len tt_ok rfl rfl p0N0) rfl ?_
  refine wl_run rfl ?_
  refine wl_pure (v := .pointer (some ⟨b3, 16, none⟩)) tt_ok rfl rfl ?_
  refine wl_run rfl ?_
  refine wl_val (v := .slice p1a0 p1n0 p1c0) (val_load tt_ok rfl (List.Mem.head _) rfl) rfl ?_
  refine wl_run rfl ?_
  refine wl_val (v := .int .i64 (p1.Shots.length : Int)) (val_len tt_ok rfl rfl p1N0) rfl ?_
  refine wl_run rfl ?_
  refine wl_pure (v := .bool ((p0.Shots.length : Int) != (p1.Shots.length : Int))) tt_ok rfl rfl ?_
  simp only [Option.some.injEq, Prod.mk.injEq] at h
  obtain rfl := h
  have h := hg51; clear hg51
  refine wl_pure (v := .bool ((p0.Shots.length : Int) != (p1.Shots.length : Int))) tt_ok rfl rfl ?_
  refine wl_nil ?_
  refine wx_then ?_
  refine wc_cond rfl (fun hc => ?_) (fun hc => ?_)
  · replace h := ct hc h
    refine wc_seq ?_
    refine wc_region ?_
    refine wl_pure tt_ok rfl rfl ?_
    refine wl_nil ?_
    refine wx_then ?_
    refine wc_ret ?_
    refine wx_then_ret ?_
    simp only [Option.some.injEq] at h
    obtain rfl := h
    exact wx_pf tt_ok (.inl rfl) Tryd.results15 (Res.tmp rfl Res.nil) rfl
  replace h := cf hc h
  refine wc_skip ?_
  refine wx_then ?_
  refine wc_seq ?_
  refine wc_seq ?_
  refine wc_region ?_
  refine wl_pure tt_ok rfl rfl ?_
  refine wl_nil ?_
  refine wx_then ?_
  refine wc_block ?_
  replace h := bsome h; obtain ⟨o15, h, hl15⟩ := h
  refine wc_loop (fun m E L => ∃ (j15_5 : Int), m_hindcastref08_Same_L14 F p0 p1 m j15_5 = some o15 ∧ E = [(2, .pointer (some ⟨b2, 0, none⟩)), (3, .pointer (some ⟨b3, 0, none⟩)), (4, .bool false), (5, .int .i64 j15_5)] ∧ L = (⟨b2, [.int .u64 p0.Frame, .int .u64 p0.Seed, .int .i32 p0.Players.1.X, .int .i32 p0.Players.1.Y, .int .i32 p0.Players.1.VX, .int .i32 p0.Players.1.VY, .int .u8 p0.Players.1.Health, .int .u8 p0.Players.1.Cool, .int .u8 p0.Players.1.Face, .int .i32 p0.Players.2.X, .int .i32 p0.Players.2.Y, .int .i32 p0.Players.2.VX, .int .i32 p0.Players.2.VY, .int .u8 p0.Players.2.Health, .int .u8 p0.Players.2.Cool, .int .u8 p0.Players.2.Face, .slice p0a0 p0n0 p0c0, .int .u16 p0.Score.1, .int .u16 p0.Score.2], 30, (0, 0)⟩ :: (⟨b3, [.int .u64 p1.Frame, .int .u64 p1.Seed, .int .i32 p1.Players.1.X, .int .i32 p1.Players.1.Y, .int .i32 p1.Players.1.VX, .int .i32 p1.Players.1.VY, .int .u8 p1.Players.1.Health, .int .u8 p1.Players.1.Cool, .int .u8 p1.Players.1.Face, .int .i32 p1.Players.2.X, .int .i32 p1.Players.2.Y, .int .i32 p1.Players.2.VX, .int .i32 p1.Players.2.VY, .int .u8 p1.Players.2.Health, .int .u8 p1.Players.2.Cool, .int .u8 p1.Players.2.Face, .slice p1a0 p1n0 p1c0, .int .u16 p1.Score.1, .int .u16 p1.Score.2], 30, (0, 0)⟩ :: []))) F ⟨(0 : Int), h, rfl, rfl⟩ (agree_cons rfl (agree_cons rfl (agree_cons rfl (agree_cons rfl agree_nil)))) (pSub (pCons (Sel.sc Sel.hc) (pCons Sel.hc pNil))) ?_
  clear h
  rintro m15 _ _ ⟨j15_5, h, rfl, rfl⟩
  rcases m15 with _ | m15
  · rw [m_hindcastref08_Same_L14.eq_1] at h; cases h
  rw [m_hindcastref08_Same_L14.eq_2] at h
  refine wc_seq ?_
  refine wc_seq ?_
  refine wc_region ?_
  refine wl_pure tt_ok rfl rfl ?_
  refine wl_pure (v := .pointer (some ⟨b2, 16, none⟩)) tt_ok rfl rfl ?_
  refine wl_val (v := .slice p0a0 p0n0 p0c0) (val_load tt_ok rfl (List.Mem.head _) rfl) rfl ?_
  refine wl_val (v := .int .i64 (p0.Shots.length : Int)) (val_len tt_ok rfl rfl p0N0) rfl ?_
  refine wl_pure (v := .bool (decide (j15_5 < (p0.Shots.length : Int)))) tt_ok rfl rfl ?_
  refine wl_nil ?_
  refine wx_then ?_
  refine wc_cond rfl (fun hc => ?_) (fun hc => ?_)
  · replace h := ct hc h
    refine wc_skip ?_
    refine wx_then ?_
    refine wc_seq ?_
    refine wc_block ?_
    refine wc_seq ?_
    refine wc_quiet (by kernel_rfl) (by kernel_rfl) ?_
    refine wq_pure (v := .pointer (some ⟨b2, 16, none⟩)) tt_ok rfl rfl ?_
    refine wq_val (v := .slice p0a0 p0n0 p0c0) (val_load tt_ok rfl (List.Mem.head _) rfl) rfl ?_
    refine wq_pure tt_ok rfl rfl ?_
    replace h := bsome h; obtain ⟨v62, x62, h⟩ := h
    refine wq_val (v := .pointer (some ((adOf p0a0).add (j15_5.toNat * 6 + 0)))) (val_ix (enc := c_T_api_Shot) tt_ok rfl rfl rfl rfl p0N0 p0S0 c_T_api_Shot_len rfl x62) rfl ?_
    refine wq_val (v := .agg #[.int .i32 v62.X, .int .i32 v62.Y, .int .i32 v62.VX, .int .i32 v62.VY, .int .u8 v62.Owner, .int .u8 v62.Life]) (val_le (enc := c_T_api_Shot) (xs := p0.Shots) tt_ok rfl p0S0 rsub_nil c_T_api_Shot_len x62 rfl) rfl ?_
    refine wq_pure (v := .pointer (some ⟨b3, 16, none⟩)) tt_ok rfl rfl ?_
    refine wq_val (v := .slice p1a0 p1n0 p1c0) (val_load tt_ok rfl (List.Mem.tail _ (List.Mem.head _)) rfl) rfl ?_
    refine wq_pure tt_ok rfl rfl ?_
    replace h := bsome h; obtain ⟨v67, x67, h⟩ := h
    refine wq_val (v := .pointer (some ((adOf p1a0).add (j15_5.toNat * 6 + 0)))) (val_ix (enc := c_T_api_Shot) tt_ok rfl rfl rfl rfl p1N0 p1S0 c_T_api_Shot_len rfl x67) rfl ?_
    refine wq_val (v := .agg #[.int .i32 v67.X, .int .i32 v67.Y, .int .i32 v67.VX, .int .i32 v67.VY, .int .u8 v67.Owner, .int .u8 v67.Life]) (val_le (enc := c_T_api_Shot) (xs := p1.Shots) tt_ok rfl p1S0 rsub_nil c_T_api_Shot_len x67 rfl) rfl ?_
    refine wq_val (v := .bool (!((v62.X == v67.X) && ((v62.Y == v67.Y) && ((v62.VX == v67.VX) && ((v62.VY == v67.VY) && ((v62.Owner == v67.Owner) && (v62.Life == v67.Life)))))))) (val_nes tt_ok tt_eq tt_one Tryd.eqGuardType50 rfl rfl rfl rfl rfl) rfl ?_
    refine wq_nil ?_
    refine wx_then ?_
    refine wc_cond rfl (fun hc => ?_) (fun hc => ?_)
    · replace h := ct hc h
      refine wc_seq ?_
      refine wc_region ?_
      refine wl_pure tt_ok rfl rfl ?_
      refine wl_nil ?_
      refine wx_then ?_
      refine wc_ret ?_
      refine wx_block_ret ?_
      refine wx_then_ret ?_
      obtain rfl := Option.some.inj h
      have h := hl15; clear hl15; try dsimp only [orE_l, orE_r] at h
      refine wx_then_ret ?_
      refine wx_block_ret ?_
      refine wx_then_ret ?_
      simp only [Option.some.injEq] at h
      obtain rfl := h
      exact wx_pf tt_ok (.inl rfl) Tryd.results15 (Res.tmp rfl Res.nil) rfl
    replace h := cf hc h
    refine wc_skip ?_
    refine wx_block ?_
    refine wx_then ?_
    refine wc_region ?_
    refine wl_pure tt_ok rfl rfl ?_
    refine wl_pure (v := .int .i64 (IntKind.wrap .i64 (j15_5 + (1 : Int)))) tt_ok rfl rfl ?_
    refine wl_pure tt_ok rfl rfl ?_
    refine wl_nil ?_
    exact wx_round m15 (Nat.lt_succ_self m15) ⟨(IntKind.wrap .i64 (j15_5 + (1 : Int))), h, rfl, rfl⟩ (agree_cons rfl (agree_cons rfl (agree_cons rfl (agree_cons rfl agree_nil)))) (pSub (pCons Sel.hc (pCons Sel.hc pNil)))
  replace h := cf hc h
  refine wc_exit ?_
  refine wx_then_exit ?_
  obtain rfl := Option.some.inj h
  have h := hl15; clear hl15; try dsimp only [orE_l, orE_r] at h
  refine wx_then_exit ?_
  refine wx_block_exit ?_
  refine wx_then ?_
  refine wc_seq ?_
  refine wc_region ?_
  refine wl_pure tt_ok rfl rfl ?_
  refine wl_nil ?_
  refine wx_then ?_
  refine wc_ret ?_
  simp only [Option.some.injEq] at h
  obtain rfl := h
  exact wx_pf tt_ok (.inl rfl) Tryd.results15 (Res.tmp rfl Res.nil) rfl

end Go.Proofs.YtekplmhmppdpcaaDoor
