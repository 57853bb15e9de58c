/-
  Each function computes what its model says. Printed by a program of this claim's own.
-/
import Derived.Test.YthlnellnlhkphaaDoorTab
import Derived.Test.YthlnellnlhkphaaDoorMod
import Derived.Test.YthlnellnlhkphaaDoorWalk2
import Derived.Test.YthlnellnlhkphaaDoorIns
namespace Go.Proofs.YthlnellnlhkphaaDoor
open Go.Proofs.YthlnellnlhkphaaDoor.Eng
set_option linter.unusedVariables false
set_option linter.unusedSimpArgs false
set_option maxHeartbeats 4000000
set_option maxRecDepth 20000

theorem k_state_Put {F : Nat} {p0 : T_api_State} {p0a0 : Option Addr} {p0n0 p0c0 : Nat} {r0 : (List UInt8)} (p0N0 : p0n0 = p0.Shots.length) (p0H0 : p0n0 ≤ p0c0) (h : m_state_Put F p0 = some r0) :
    Pf Tryd.prog 29 [.agg #[.int .u64 p0.Frame, .int .u64 p0.Seed, .int .i32 p0.Players.1.X, .int .i32 p0.Players.1.Y, .int .i32 p0.Players.1.VX, .int .i32 p0.Players.1.VY, .int .u8 p0.Players.1.Health, .int .u8 p0.Players.1.Cool, .int .u8 p0.Players.1.Face, .int .i32 p0.Players.2.X, .int .i32 p0.Players.2.Y, .int .i32 p0.Players.2.VX, .int .i32 p0.Players.2.VY, .int .u8 p0.Players.2.Health, .int .u8 p0.Players.2.Cool, .int .u8 p0.Players.2.Face, .slice p0a0 p0n0 p0c0, .int .u16 p0.Score.1, .int .u16 p0.Score.2]] (fun w => Rds w [] [] p0a0 (flat c_T_api_Shot p0.Shots) ∧ Rds w [] [] (some ⟨0, 0, none⟩) (flat (fun _ : Unit => gl_state_playerBounds) [()]) ∧ Rds w [] [] (some ⟨1, 0, none⟩) (flat (fun _ : Unit => gl_state_shotBounds) [()])) (.string ⟨r0.toArray⟩) := by
  unfold m_state_Put at h
  refine pf_of_wc Tryd.func29 rfl Tryd.ntmps29 rfl rfl (fun w0 hR => ?_)
  obtain ⟨p0S0, G0S, G1S⟩ := hR
  refine wc_seq (wc_region ?_)
  refine wl_box rfl rfl rfl (fun b1 => ?_)
  refine wl_pure tt_ok rfl rfl ?_
  refine wl_nil (wx_then (wc_seq (wc_seq (wc_region ?_))))
  refine wl_val (v := .agg #[.int .u64 p0.Frame, .int .u64 p0.Seed, .int .i32 p0.Players.1.X, .int .i32 p0.Players.1.Y, .int .i32 p0.Players.1.VX, .int .i32 p0.Players.1.VY, .int .u8 p0.Players.1.Health, .int .u8 p0.Players.1.Cool, .int .u8 p0.Players.1.Face, .int .i32 p0.Players.2.X, .int .i32 p0.Players.2.Y, .int .i32 p0.Players.2.VX, .int .i32 p0.Players.2.VY, .int .u8 p0.Players.2.Health, .int .u8 p0.Players.2.Cool, .int .u8 p0.Players.2.Face, .slice p0a0 p0n0 p0c0, .int .u16 p0.Score.1, .int .u16 p0.Score.2]) (val_load tt_ok rfl (List.Mem.head _) rfl) rfl ?_
  replace h := bsome h; obtain ⟨v11, x11, h⟩ := h
  refine wl_cq Tryd.call31 rfl rfl rfl (q_pf (k_state_Check (p0 := p0) p0N0 p0H0 x11) (fun w hI => ⟨(Rds.call p0S0 pNil rsub_nil) w hI, (Rds.call G0S pNil rsub_nil) w hI, (Rds.call G1S pNil rsub_nil) w hI⟩)) rfl ?_
  refine wl_pure (v := .bool (v11 != (0 : Int))) tt_ok rfl rfl ?_
  refine wl_nil (wx_then ?_)
  refine wc_cond rfl (fun hc => ?_) (fun hc => ?_)
  · replace h := ct hc h
    refine wc_seq (wc_region ?_)
    refine wl_pure tt_ok rfl rfl ?_
    refine wl_nil (wx_then (wc_ret (wx_then_ret ?_)))
    simp only [Option.some.injEq] at h
    obtain rfl := h
    exact wx_pf tt_ok (.inl rfl) Tryd.results29 (Res.tmp rfl Res.nil) rfl
  replace h := cf hc h
  refine wc_skip (wx_then (wc_seq (wc_region ?_)))
  refine wl_alloc tt_ok rfl rfl (fun b3 => ?_)
  refine wl_nil (wx_then (wc_seq (wc_region ?_)))
  refine wl_pure (v := .pointer (some ⟨b1, 0, none⟩)) tt_ok rfl rfl ?_
  refine wl_val (v := .int .u64 p0.Frame) (val_load tt_ok rfl (List.Mem.tail _ (List.Mem.head _)) rfl) rfl ?_
  replace h := bsome h; obtain ⟨o15_0, x15, h⟩ := h
  refine wl_cs Tryd.call45 rfl rfl rfl (s_sp (k_codec_Writer_U64 (p0 := (T_codec_Writer.mk ([] : List Int))) rfl Own.zero x15) (pCons Sel.hc (pNo pNil)) (fun _ _ => trivial)) rfl ?_
  rintro _ _ ⟨_, ⟨o15_0a0, o15_0n0, o15_0c0, o15_0B0, o15_0N0, o15_0V0, rfl, rfl⟩, rfl⟩
  refine wl_nil (wx_then (wc_seq (wc_region ?_)))
  refine wl_pure (v := .pointer (some ⟨b1, 1, none⟩)) tt_ok rfl rfl ?_
  refine wl_val (v := .int .u64 p0.Seed) (val_load tt_ok rfl (List.Mem.tail _ (mR (List.Mem.head _))) rfl) rfl ?_
  replace h := bsome h; obtain ⟨o18_0, x18, h⟩ := h
  refine wl_cs Tryd.call45 rfl rfl rfl (s_sp (k_codec_Writer_U64 (p0 := o15_0) o15_0N0 o15_0V0 x18) (pCons Sel.hc (pApp Sel.ha pNil)) (fun _ _ => trivial)) rfl ?_
  rintro _ _ ⟨_, ⟨o18_0a0, o18_0n0, o18_0c0, o18_0B0, o18_0N0, o18_0V0, rfl, rfl⟩, rfl⟩
  refine wl_nil (wx_then (wc_seq (wc_seq (wc_region ?_))))
  refine wl_pure (v := .pointer (some ⟨b1, 2, none⟩)) tt_ok rfl rfl ?_
  refine wl_val (v := .agg #[.int .i32 p0.Players.1.X, .int .i32 p0.Players.1.Y, .int .i32 p0.Players.1.VX, .int .i32 p0.Players.1.VY, .int .u8 p0.Players.1.Health, .int .u8 p0.Players.1.Cool, .int .u8 p0.Players.1.Face, .int .i32 p0.Players.2.X, .int .i32 p0.Players.2.Y, .int .i32 p0.Players.2.VX, .int .i32 p0.Players.2.VY, .int .u8 p0.Players.2.Health, .int .u8 p0.Players.2.Cool, .int .u8 p0.Players.2.Face]) (val_load tt_ok rfl (List.Mem.tail _ (mR (List.Mem.head _))) rfl) rfl ?_
  refine wl_pure tt_ok rfl rfl ?_
  refine wl_nil (wx_then (wc_block ?_))
  replace h := bsome h; obtain ⟨l21_n3_f0, h, hl21⟩ := h
  refine wc_loop (fun m E L => ∃ (j21_21 : Int) (j21_n3_f0 : (List Int)) (j21_n3_f0a0 : Option Addr) (j21_n3_f0n0 : Nat) (j21_n3_f0c0 : Nat) (j21_n3_f0B0 : List Blk), m_state_Put_L20 F p0 m j21_21 j21_n3_f0 = some l21_n3_f0 ∧ j21_n3_f0n0 = j21_n3_f0.length ∧ Own 5 1 j21_n3_f0a0 j21_n3_f0n0 j21_n3_f0c0 (flat (e1 .u8) j21_n3_f0) j21_n3_f0B0 ∧ E = [(1, .pointer (some ⟨b1, 0, none⟩)), (2, .string ⟨([] : List UInt8).toArray⟩), (3, .pointer (some ⟨b3, 0, none⟩)), (20, .agg #[.int .i32 p0.Players.1.X, .int .i32 p0.Players.1.Y, .int .i32 p0.Players.1.VX, .int .i32 p0.Players.1.VY, .int .u8 p0.Players.1.Health, .int .u8 p0.Players.1.Cool, .int .u8 p0.Players.1.Face, .int .i32 p0.Players.2.X, .int .i32 p0.Players.2.Y, .int .i32 p0.Players.2.VX, .int .i32 p0.Players.2.VY, .int .u8 p0.Players.2.Health, .int .u8 p0.Players.2.Cool, .int .u8 p0.Players.2.Face]), (21, .int .i64 j21_21)] ∧ L = (⟨b1, [.int .u64 p0.Frame, .int .u64 p0.Seed, .int .i32 p0.Players.1.X, .int .i32 p0.Players.1.Y, .int .i32 p0.Players.1.VX, .int .i32 p0.Players.1.VY, .int .u8 p0.Players.1.Health, .int .u8 p0.Players.1.Cool, .int .u8 p0.Players.1.Face, .int .i32 p0.Players.2.X, .int .i32 p0.Players.2.Y, .int .i32 p0.Players.2.VX, .int .i32 p0.Players.2.VY, .int .u8 p0.Players.2.Health, .int .u8 p0.Players.2.Cool, .int .u8 p0.Players.2.Face, .slice p0a0 p0n0 p0c0, .int .u16 p0.Score.1, .int .u16 p0.Score.2], 41, (0, 0)⟩ :: (⟨b3, [.slice j21_n3_f0a0 j21_n3_f0n0 j21_n3_f0c0], 103, (0, 0)⟩ :: (j21_n3_f0B0 ++ [])))) F ⟨(0 : Int), o18_0.b, o18_0a0, o18_0n0, o18_0c0, o18_0B0, h, o18_0N0, o18_0V0, rfl, rfl⟩ (agree_cons rfl (agree_cons rfl (agree_cons rfl (agree_cons rfl (agree_cons rfl agree_nil))))) (pSub (pCons (Sel.sc (Sel.sa Sel.hc)) (pCons Sel.hc (pApp Sel.ha pNil)))) ?_
  clear h
  rintro m21 _ _ ⟨j21_21, j21_n3_f0, j21_n3_f0a0, j21_n3_f0n0, j21_n3_f0c0, j21_n3_f0B0, h, j21_n3_f0N0, j21_n3_f0V0, rfl, rfl⟩
  rcases m21 with _ | m21
  · rw [m_state_Put_L20.eq_1] at h; cases h
  rw [m_state_Put_L20.eq_2] at h
  refine wc_seq (wc_region ?_)
  refine wl_pure (v := .bool (decide (j21_21 < (2 : Int)))) tt_ok rfl rfl ?_
  refine wl_nil (wx_then (wc_seq ?_))
  refine wc_cond rfl (fun hc => ?_) (fun hc => ?_)
  · replace h := ct hc h
    refine wc_skip (wx_then (wc_seq (wc_block (wc_seq (wc_region ?_)))))
    rcases Bool.eq_false_or_eq_true (j21_21 == (0 : Int)) with hx230 | hx230
    · replace h := ct hx230 h
      refine wl_val (v := .agg #[.int .i32 p0.Players.1.X, .int .i32 p0.Players.1.Y, .int .i32 p0.Players.1.VX, .int .i32 p0.Players.1.VY, .int .u8 p0.Players.1.Health, .int .u8 p0.Players.1.Cool, .int .u8 p0.Players.1.Face]) (val_iv (j := 0) tt_ok rfl rfl rfl rfl (by simpa using hx230) rfl rfl) rfl ?_
      refine wl_alloc tt_ok rfl rfl (fun b5 => ?_)
      apply wl_store tt_ok; rfl; exact Upd.here; rfl; rfl; rfl; rfl; rfl; rfl
      refine wl_nil (wx_then (wc_region ?_))
      refine wl_val (v := .agg #[.int .i32 p0.Players.1.X, .int .i32 p0.Players.1.Y, .int .i32 p0.Players.1.VX, .int .i32 p0.Players.1.VY, .int .u8 p0.Players.1.Health, .int .u8 p0.Players.1.Cool, .int .u8 p0.Players.1.Face]) (val_load tt_ok rfl (List.Mem.head _) rfl) rfl ?_
      replace h := bsome h; obtain ⟨v25, x25, h⟩ := h
      refine wl_cs Tryd.call47 rfl rfl rfl (s_sp (k_state_ofPlayer x25) pNil (fun _ _ => trivial)) rfl ?_
      rintro _ _ ⟨_, ⟨v25a0, v25n0, v25c0, v25B0, v25N0, v25V0, rfl, rfl⟩, rfl⟩
      replace h := bsome h; obtain ⟨o26_0, x26, h⟩ := h
      refine wl_cs Tryd.call46 rfl rfl rfl (s_sp (k_state_put (p0 := (T_codec_Writer.mk j21_n3_f0)) (p1 := v25) j21_n3_f0N0 j21_n3_f0V0 v25N0 (vec_cap v25V0) x26) (pCons (Sel.sa (Sel.sc (Sel.sc Sel.hc))) (pApp (Sel.sa (Sel.sc (Sel.sc Sel.ha))) pNil)) (Rds.call (Rds.of_vec v25V0) (pCons (Sel.sa (Sel.sc (Sel.sc Sel.hc))) (pApp (Sel.sa (Sel.sc (Sel.sc Sel.ha))) pNil)) ⟨_, Sel.ha⟩)) rfl ?_
      rintro _ _ ⟨_, ⟨o26_0a0, o26_0n0, o26_0c0, o26_0B0, o26_0N0, o26_0V0, rfl, rfl⟩, rfl⟩
      refine wl_nil (wx_block (wx_then (wc_region ?_)))
      refine wl_pure (v := .int .i64 (IntKind.wrap .i64 (j21_21 + (1 : Int)))) tt_ok rfl rfl ?_
      refine wl_pure tt_ok rfl rfl ?_
      refine wl_nil ?_
      exact wx_round m21 (Nat.lt_succ_self m21) ⟨(IntKind.wrap .i64 (j21_21 + (1 : Int))), o26_0.b, o26_0a0, o26_0n0, o26_0c0, o26_0B0, h, o26_0N0, o26_0V0, rfl, rfl⟩ (agree_cons rfl (agree_cons rfl (agree_cons rfl (agree_cons rfl (agree_cons rfl agree_nil))))) (pSub (pCons (Sel.sc (Sel.sa (Sel.sa (Sel.sc Sel.hc)))) (pCons Sel.hc (pApp Sel.ha pNil))))
    replace h := cf hx230 h
    rcases Bool.eq_false_or_eq_true (j21_21 == (1 : Int)) with hx231 | hx231
    · replace h := ct hx231 h
      refine wl_val (v := .agg #[.int .i32 p0.Players.2.X, .int .i32 p0.Players.2.Y, .int .i32 p0.Players.2.VX, .int .i32 p0.Players.2.VY, .int .u8 p0.Players.2.Health, .int .u8 p0.Players.2.Cool, .int .u8 p0.Players.2.Face]) (val_iv (j := 1) tt_ok rfl rfl rfl rfl (by simpa using hx231) rfl rfl) rfl ?_
      refine wl_alloc tt_ok rfl rfl (fun b5 => ?_)
      apply wl_store tt_ok; rfl; exact Upd.here; rfl; rfl; rfl; rfl; rfl; rfl
      refine wl_nil (wx_then (wc_region ?_))
      refine wl_val (v := .agg #[.int .i32 p0.Players.2.X, .int .i32 p0.Players.2.Y, .int .i32 p0.Players.2.VX, .int .i32 p0.Players.2.VY, .int .u8 p0.Players.2.Health, .int .u8 p0.Players.2.Cool, .int .u8 p0.Players.2.Face]) (val_load tt_ok rfl (List.Mem.head _) rfl) rfl ?_
      replace h := bsome h; obtain ⟨v25, x25, h⟩ := h
      refine wl_cs Tryd.call47 rfl rfl rfl (s_sp (k_state_ofPlayer x25) pNil (fun _ _ => trivial)) rfl ?_
      rintro _ _ ⟨_, ⟨v25a0, v25n0, v25c0, v25B0, v25N0, v25V0, rfl, rfl⟩, rfl⟩
      replace h := bsome h; obtain ⟨o26_0, x26, h⟩ := h
      refine wl_cs Tryd.call46 rfl rfl rfl (s_sp (k_state_put (p0 := (T_codec_Writer.mk j21_n3_f0)) (p1 := v25) j21_n3_f0N0 j21_n3_f0V0 v25N0 (vec_cap v25V0) x26) (pCons (Sel.sa (Sel.sc (Sel.sc Sel.hc))) (pApp (Sel.sa (Sel.sc (Sel.sc Sel.ha))) pNil)) (Rds.call (Rds.of_vec v25V0) (pCons (Sel.sa (Sel.sc (Sel.sc Sel.hc))) (pApp (Sel.sa (Sel.sc (Sel.sc Sel.ha))) pNil)) ⟨_, Sel.ha⟩)) rfl ?_
      rintro _ _ ⟨_, ⟨o26_0a0, o26_0n0, o26_0c0, o26_0B0, o26_0N0, o26_0V0, rfl, rfl⟩, rfl⟩
      refine wl_nil (wx_block (wx_then (wc_region ?_)))
      refine wl_pure (v := .int .i64 (IntKind.wrap .i64 (j21_21 + (1 : Int)))) tt_ok rfl rfl ?_
      refine wl_pure tt_ok rfl rfl ?_
      refine wl_nil ?_
      exact wx_round m21 (Nat.lt_succ_self m21) ⟨(IntKind.wrap .i64 (j21_21 + (1 : Int))), o26_0.b, o26_0a0, o26_0n0, o26_0c0, o26_0B0, h, o26_0N0, o26_0V0, rfl, rfl⟩ (agree_cons rfl (agree_cons rfl (agree_cons rfl (agree_cons rfl (agree_cons rfl agree_nil))))) (pSub (pCons (Sel.sc (Sel.sa (Sel.sa (Sel.sc Sel.hc)))) (pCons Sel.hc (pApp Sel.ha pNil))))
    replace h := cf hx231 h
    cases h
  replace h := cf hc h
  refine wc_exit (wx_then_exit ?_)
  simp only [Option.some.injEq] at h
  obtain rfl := h
  have h := hl21; clear hl21; try dsimp only [orE_l, orE_r] at h
  refine wx_then_exit (wx_block_exit (wx_then (wc_seq (wc_region ?_))))
  refine wl_pure (v := .pointer (some ⟨b1, 16, none⟩)) tt_ok rfl rfl ?_
  refine wl_val (v := .slice p0a0 p0n0 p0c0) (val_load tt_ok rfl (List.Mem.head _) rfl) rfl ?_
  refine wl_val (v := .int .i64 (p0.Shots.length : Int)) (val_len tt_ok rfl rfl p0N0) rfl ?_
  refine wl_pure (v := .int .u64 (IntKind.wrap .u64 (p0.Shots.length : Int))) tt_ok rfl rfl ?_
  replace h := bsome h; obtain ⟨o32_0, x32, h⟩ := h
  refine wl_cs Tryd.call48 rfl rfl rfl (s_sp (k_codec_Writer_Var (p0 := (T_codec_Writer.mk j21_n3_f0)) j21_n3_f0N0 j21_n3_f0V0 x32) (pCons (Sel.sc Sel.hc) (pApp (Sel.sc Sel.ha) pNil)) (fun _ _ => trivial)) rfl ?_
  rintro _ _ ⟨_, ⟨o32_0a0, o32_0n0, o32_0c0, o32_0B0, o32_0N0, o32_0V0, rfl, rfl⟩, rfl⟩
  refine wl_nil (wx_then (wc_seq (wc_seq (wc_region ?_))))
  refine wl_pure (v := .pointer (some ⟨b1, 16, none⟩)) tt_ok rfl rfl ?_
  refine wl_val (v := .slice p0a0 p0n0 p0c0) (val_load tt_ok rfl (List.Mem.tail _ (mR (List.Mem.head _))) rfl) rfl ?_
  refine wl_val (v := .int .i64 (p0.Shots.length : Int)) (val_len tt_ok rfl rfl p0N0) rfl ?_
  refine wl_pure tt_ok rfl rfl ?_
  refine wl_nil (wx_then (wc_block ?_))
  replace h := bsome h; obtain ⟨l40_n3_f0, h, hl40⟩ := h
  refine wc_loop (fun m E L => ∃ (j40_36 : Int) (j40_n3_f0 : (List Int)) (j40_n3_f0a0 : Option Addr) (j40_n3_f0n0 : Nat) (j40_n3_f0c0 : Nat) (j40_n3_f0B0 : List Blk), m_state_Put_L39 F p0 m j40_36 j40_n3_f0 = some l40_n3_f0 ∧ j40_n3_f0n0 = j40_n3_f0.length ∧ Own 5 1 j40_n3_f0a0 j40_n3_f0n0 j40_n3_f0c0 (flat (e1 .u8) j40_n3_f0) j40_n3_f0B0 ∧ E = [(1, .pointer (some ⟨b1, 0, none⟩)), (2, .string ⟨([] : List UInt8).toArray⟩), (3, .pointer (some ⟨b3, 0, none⟩)), (34, .slice p0a0 p0n0 p0c0), (35, .int .i64 (p0.Shots.length : Int)), (36, .int .i64 j40_36)] ∧ L = (⟨b1, [.int .u64 p0.Frame, .int .u64 p0.Seed, .int .i32 p0.Players.1.X, .int .i32 p0.Players.1.Y, .int .i32 p0.Players.1.VX, .int .i32 p0.Players.1.VY, .int .u8 p0.Players.1.Health, .int .u8 p0.Players.1.Cool, .int .u8 p0.Players.1.Face, .int .i32 p0.Players.2.X, .int .i32 p0.Players.2.Y, .int .i32 p0.Players.2.VX, .int .i32 p0.Players.2.VY, .int .u8 p0.Players.2.Health, .int .u8 p0.Players.2.Cool, .int .u8 p0.Players.2.Face, .slice p0a0 p0n0 p0c0, .int .u16 p0.Score.1, .int .u16 p0.Score.2], 41, (0, 0)⟩ :: (⟨b3, [.slice j40_n3_f0a0 j40_n3_f0n0 j40_n3_f0c0], 103, (0, 0)⟩ :: (j40_n3_f0B0 ++ [])))) F ⟨(0 : Int), o32_0.b, o32_0a0, o32_0n0, o32_0c0, o32_0B0, h, o32_0N0, o32_0V0, rfl, rfl⟩ (agree_cons rfl (agree_cons rfl (agree_cons rfl (agree_cons rfl (agree_cons rfl (agree_cons rfl agree_nil)))))) (pSub (pCons (Sel.sc (Sel.sa Sel.hc)) (pCons Sel.hc (pApp Sel.ha pNil)))) ?_
  clear h
  rintro m40 _ _ ⟨j40_36, j40_n3_f0, j40_n3_f0a0, j40_n3_f0n0, j40_n3_f0c0, j40_n3_f0B0, h, j40_n3_f0N0, j40_n3_f0V0, rfl, rfl⟩
  rcases m40 with _ | m40
  · rw [m_state_Put_L39.eq_1] at h; cases h
  rw [m_state_Put_L39.eq_2] at h
  refine wc_seq (wc_region ?_)
  refine wl_pure (v := .bool (decide (j40_36 < (p0.Shots.length : Int)))) tt_ok rfl rfl ?_
  refine wl_nil (wx_then (wc_seq ?_))
  refine wc_cond rfl (fun hc => ?_) (fun hc => ?_)
  · replace h := ct hc h
    refine wc_skip (wx_then (wc_seq (wc_block (wc_seq (wc_region ?_)))))
    replace h := bsome h; obtain ⟨v38, x38, h⟩ := h
    refine wl_val (v := .pointer (some ((adOf p0a0).add (j40_36.toNat * 6 + 0)))) (val_ix (enc := c_T_api_Shot) tt_ok rfl rfl rfl rfl p0N0 p0S0 c_T_api_Shot_len rfl x38) rfl ?_
    refine wl_val (v := .agg #[.int .i32 v38.X, .int .i32 v38.Y, .int .i32 v38.VX, .int .i32 v38.VY, .int .u8 v38.Owner, .int .u8 v38.Life]) (val_le (enc := c_T_api_Shot) (xs := p0.Shots) tt_ok rfl p0S0 rsub_nil c_T_api_Shot_len x38 rfl) rfl ?_
    refine wl_alloc tt_ok rfl rfl (fun b7 => ?_)
    apply wl_store tt_ok; rfl; exact Upd.here; rfl; rfl; rfl; rfl; rfl; rfl
    refine wl_nil (wx_then (wc_region ?_))
    refine wl_val (v := .agg #[.int .i32 v38.X, .int .i32 v38.Y, .int .i32 v38.VX, .int .i32 v38.VY, .int .u8 v38.Owner, .int .u8 v38.Life]) (val_load tt_ok rfl (List.Mem.head _) rfl) rfl ?_
    replace h := bsome h; obtain ⟨v41, x41, h⟩ := h
    refine wl_cs Tryd.call49 rfl rfl rfl (s_sp (k_state_ofShot x41) pNil (fun _ _ => trivial)) rfl ?_
    rintro _ _ ⟨_, ⟨v41a0, v41n0, v41c0, v41B0, v41N0, v41V0, rfl, rfl⟩, rfl⟩
    replace h := bsome h; obtain ⟨o42_0, x42, h⟩ := h
    refine wl_cs Tryd.call46 rfl rfl rfl (s_sp (k_state_put (p0 := (T_codec_Writer.mk j40_n3_f0)) (p1 := v41) j40_n3_f0N0 j40_n3_f0V0 v41N0 (vec_cap v41V0) x42) (pCons (Sel.sa (Sel.sc (Sel.sc Sel.hc))) (pApp (Sel.sa (Sel.sc (Sel.sc Sel.ha))) pNil)) (Rds.call (Rds.of_vec v41V0) (pCons (Sel.sa (Sel.sc (Sel.sc Sel.hc))) (pApp (Sel.sa (Sel.sc (Sel.sc Sel.ha))) pNil)) ⟨_, Sel.ha⟩)) rfl ?_
    rintro _ _ ⟨_, ⟨o42_0a0, o42_0n0, o42_0c0, o42_0B0, o42_0N0, o42_0V0, rfl, rfl⟩, rfl⟩
    refine wl_nil (wx_block (wx_then (wc_region ?_)))
    refine wl_pure (v := .int .i64 (IntKind.wrap .i64 (j40_36 + (1 : Int)))) tt_ok rfl rfl ?_
    refine wl_pure tt_ok rfl rfl ?_
    refine wl_nil ?_
    exact wx_round m40 (Nat.lt_succ_self m40) ⟨(IntKind.wrap .i64 (j40_36 + (1 : Int))), o42_0.b, o42_0a0, o42_0n0, o42_0c0, o42_0B0, h, o42_0N0, o42_0V0, rfl, rfl⟩ (agree_cons rfl (agree_cons rfl (agree_cons rfl (agree_cons rfl (agree_cons rfl (agree_cons rfl agree_nil)))))) (pSub (pCons (Sel.sc (Sel.sa (Sel.sa (Sel.sc Sel.hc)))) (pCons Sel.hc (pApp Sel.ha pNil))))
  replace h := cf hc h
  refine wc_exit (wx_then_exit ?_)
  simp only [Option.some.injEq] at h
  obtain rfl := h
  have h := hl40; clear hl40; try dsimp only [orE_l, orE_r] at h
  refine wx_then_exit (wx_block_exit (wx_then (wc_seq (wc_seq (wc_region ?_)))))
  refine wl_pure (v := .pointer (some ⟨b1, 17, none⟩)) tt_ok rfl rfl ?_
  refine wl_val (v := .agg #[.int .u16 p0.Score.1, .int .u16 p0.Score.2]) (val_load tt_ok rfl (List.Mem.head _) rfl) rfl ?_
  refine wl_pure tt_ok rfl rfl ?_
  refine wl_nil (wx_then (wc_block ?_))
  replace h := bsome h; obtain ⟨l57_n3_f0, h, hl57⟩ := h
  refine wc_loop (fun m E L => ∃ (j57_46 : Int) (j57_n3_f0 : (List Int)) (j57_n3_f0a0 : Option Addr) (j57_n3_f0n0 : Nat) (j57_n3_f0c0 : Nat) (j57_n3_f0B0 : List Blk), m_state_Put_L56 F p0 m j57_46 j57_n3_f0 = some l57_n3_f0 ∧ j57_n3_f0n0 = j57_n3_f0.length ∧ Own 5 1 j57_n3_f0a0 j57_n3_f0n0 j57_n3_f0c0 (flat (e1 .u8) j57_n3_f0) j57_n3_f0B0 ∧ E = [(2, .string ⟨([] : List UInt8).toArray⟩), (3, .pointer (some ⟨b3, 0, none⟩)), (45, .agg #[.int .u16 p0.Score.1, .int .u16 p0.Score.2]), (46, .int .i64 j57_46)] ∧ L = (⟨b3, [.slice j57_n3_f0a0 j57_n3_f0n0 j57_n3_f0c0], 103, (0, 0)⟩ :: (j57_n3_f0B0 ++ []))) F ⟨(0 : Int), j40_n3_f0, j40_n3_f0a0, j40_n3_f0n0, j40_n3_f0c0, j40_n3_f0B0, h, j40_n3_f0N0, j40_n3_f0V0, rfl, rfl⟩ (agree_cons rfl (agree_cons rfl (agree_cons rfl (agree_cons rfl agree_nil)))) (pSub (pCons (Sel.sc Sel.hc) (pApp (Sel.sc Sel.ha) pNil))) ?_
  clear h
  rintro m57 _ _ ⟨j57_46, j57_n3_f0, j57_n3_f0a0, j57_n3_f0n0, j57_n3_f0c0, j57_n3_f0B0, h, j57_n3_f0N0, j57_n3_f0V0, rfl, rfl⟩
  rcases m57 with _ | m57
  · rw [m_state_Put_L56.eq_1] at h; cases h
  rw [m_state_Put_L56.eq_2] at h
  refine wc_seq (wc_region ?_)
  refine wl_pure (v := .bool (decide (j57_46 < (2 : Int)))) tt_ok rfl rfl ?_
  refine wl_nil (wx_then (wc_seq ?_))
  refine wc_cond rfl (fun hc => ?_) (fun hc => ?_)
  · replace h := ct hc h
    refine wc_skip (wx_then (wc_seq (wc_block (wc_seq (wc_region ?_)))))
    rcases Bool.eq_false_or_eq_true (j57_46 == (0 : Int)) with hx480 | hx480
    · replace h := ct hx480 h
      refine wl_val (v := .int .u16 p0.Score.1) (val_iv (j := 0) tt_ok rfl rfl rfl rfl (by simpa using hx480) rfl rfl) rfl ?_
      refine wl_pure tt_ok rfl rfl ?_
      refine wl_nil (wx_then (wc_region ?_))
      refine wl_pure tt_ok rfl rfl ?_
      replace h := bsome h; obtain ⟨o50_0, x50, h⟩ := h
      refine wl_cs Tryd.call50 rfl rfl rfl (s_sp (k_codec_Writer_U16 (p0 := (T_codec_Writer.mk j57_n3_f0)) j57_n3_f0N0 j57_n3_f0V0 x50) (pCons Sel.hc (pApp Sel.ha pNil)) (fun _ _ => trivial)) rfl ?_
      rintro _ _ ⟨_, ⟨o50_0a0, o50_0n0, o50_0c0, o50_0B0, o50_0N0, o50_0V0, rfl, rfl⟩, rfl⟩
      refine wl_nil (wx_block (wx_then (wc_region ?_)))
      refine wl_pure (v := .int .i64 (IntKind.wrap .i64 (j57_46 + (1 : Int)))) tt_ok rfl rfl ?_
      refine wl_pure tt_ok rfl rfl ?_
      refine wl_nil ?_
      exact wx_round m57 (Nat.lt_succ_self m57) ⟨(IntKind.wrap .i64 (j57_46 + (1 : Int))), o50_0.b, o50_0a0, o50_0n0, o50_0c0, o50_0B0, h, o50_0N0, o50_0V0, rfl, rfl⟩ (agree_cons rfl (agree_cons rfl (agree_cons rfl (agree_cons rfl agree_nil)))) (pSub (pCons Sel.hc (pApp Sel.ha pNil)))
    replace h := cf hx480 h
    rcases Bool.eq_false_or_eq_true (j57_46 == (1 : Int)) with hx481 | hx481
    · replace h := ct hx481 h
      refine wl_val (v := .int .u16 p0.Score.2) (val_iv (j := 1) tt_ok rfl rfl rfl rfl (by simpa using hx481) rfl rfl) rfl ?_
      refine wl_pure tt_ok rfl rfl ?_
      refine wl_nil (wx_then (wc_region ?_))
      refine wl_pure tt_ok rfl rfl ?_
      replace h := bsome h; obtain ⟨o50_0, x50, h⟩ := h
      refine wl_cs Tryd.call50 rfl rfl rfl (s_sp (k_codec_Writer_U16 (p0 := (T_codec_Writer.mk j57_n3_f0)) j57_n3_f0N0 j57_n3_f0V0 x50) (pCons Sel.hc (pApp Sel.ha pNil)) (fun _ _ => trivial)) rfl ?_
      rintro _ _ ⟨_, ⟨o50_0a0, o50_0n0, o50_0c0, o50_0B0, o50_0N0, o50_0V0, rfl, rfl⟩, rfl⟩
      refine wl_nil (wx_block (wx_then (wc_region ?_)))
      refine wl_pure (v := .int .i64 (IntKind.wrap .i64 (j57_46 + (1 : Int)))) tt_ok rfl rfl ?_
      refine wl_pure tt_ok rfl rfl ?_
      refine wl_nil ?_
      exact wx_round m57 (Nat.lt_succ_self m57) ⟨(IntKind.wrap .i64 (j57_46 + (1 : Int))), o50_0.b, o50_0a0, o50_0n0, o50_0c0, o50_0B0, h, o50_0N0, o50_0V0, rfl, rfl⟩ (agree_cons rfl (agree_cons rfl (agree_cons rfl (agree_cons rfl agree_nil)))) (pSub (pCons Sel.hc (pApp Sel.ha pNil)))
    replace h := cf hx481 h
    cases h
  replace h := cf hc h
  refine wc_exit (wx_then_exit ?_)
  simp only [Option.some.injEq] at h
  obtain rfl := h
  have h := hl57; clear hl57; try dsimp only [orE_l, orE_r] at h
  refine wx_then_exit (wx_block_exit (wx_then (wc_seq (wc_region ?_))))
  replace h := bsome h; obtain ⟨v52, x52, h⟩ := h
  refine wl_cq Tryd.call51 rfl rfl rfl (q_rd (k_codec_Writer_Bytes (p0 := (T_codec_Writer.mk j57_n3_f0)) j57_n3_f0N0 j57_n3_f0V0 x52) (pCons Sel.hc (pApp Sel.ha pNil)) (fun _ _ => trivial)) rfl ?_
  refine wl_pure tt_ok rfl rfl ?_
  refine wl_nil (wx_then (wc_ret ?_))
  simp only [Option.some.injEq] at h
  obtain rfl := h
  exact wx_pf tt_ok (.inl rfl) Tryd.results29 (Res.tmp rfl Res.nil) rfl

theorem k_digest_Join {F : Nat} {p0 : Int} {p1 : (List UInt8)} {r0 : Int} (h : m_digest_Join F p0 p1 = some r0) :
    Pf Tryd.prog 28 [.int .u64 p0, .string ⟨p1.toArray⟩] (fun w => True) (.int .u64 r0) := by
  unfold m_digest_Join at h
  refine pf_of_wc Tryd.func28 rfl Tryd.ntmps28 rfl rfl (fun w0 hR => ?_)
  refine wc_seq (wc_region ?_)
  refine wl_pure tt_ok rfl rfl ?_
  refine wl_nil (wx_then (wc_seq (wc_seq (wc_region ?_))))
  refine wl_pure tt_ok rfl rfl ?_
  refine wl_pure (v := .int .i64 (p1.length : Int)) tt_ok rfl rfl ?_
  refine wl_pure tt_ok rfl rfl ?_
  refine wl_nil (wx_then (wc_block ?_))
  replace h := bsome h; obtain ⟨l7_0, h, hl7⟩ := h
  refine wc_loop (fun m E L => ∃ (j7_0 : Int) (j7_8 : Int), m_digest_Join_L6 F p1 m j7_0 j7_8 = some l7_0 ∧ E = [(0, .int .u64 j7_0), (1, .string ⟨p1.toArray⟩), (4, .int .u64 (0 : Int)), (7, .int .i64 (p1.length : Int)), (8, .int .i64 j7_8)] ∧ L = []) F ⟨p0, (0 : Int), h, rfl, rfl⟩ (agree_cons rfl (agree_cons rfl (agree_cons rfl (agree_cons rfl (agree_cons rfl agree_nil))))) (pSub pNil) ?_
  clear h
  rintro m7 _ _ ⟨j7_0, j7_8, h, rfl, rfl⟩
  rcases m7 with _ | m7
  · rw [m_digest_Join_L6.eq_1] at h; cases h
  rw [m_digest_Join_L6.eq_2] at h
  refine wc_seq (wc_region ?_)
  refine wl_pure (v := .bool (decide (j7_8 < (p1.length : Int)))) tt_ok rfl rfl ?_
  refine wl_nil (wx_then (wc_seq ?_))
  refine wc_cond rfl (fun hc => ?_) (fun hc => ?_)
  · replace h := ct hc h
    refine wc_skip (wx_then (wc_seq (wc_block (wc_seq (wc_region ?_)))))
    iterate 2 refine wl_pure tt_ok rfl rfl ?_
    refine wl_nil (wx_then (wc_region ?_))
    iterate 3 refine wl_pure tt_ok rfl rfl ?_
    replace h := bsome h; obtain ⟨v14, x14, h⟩ := h
    refine wl_val (v := .int .u8 (v14.toNat : Int)) (val_sx tt_ok rfl rfl rfl x14) rfl ?_
    refine wl_pure (v := .int .u64 (IntKind.wrap .u64 (v14.toNat : Int))) tt_ok rfl rfl ?_
    refine wl_pure (v := .int .u64 (bits .xor .u64 j7_0 (IntKind.wrap .u64 (v14.toNat : Int)))) tt_ok rfl rfl ?_
    refine wl_pure (v := .int .u64 (IntKind.wrap .u64 ((bits .xor .u64 j7_0 (IntKind.wrap .u64 (v14.toNat : Int))) * (1099511628211 : Int)))) tt_ok rfl rfl ?_
    refine wl_pure tt_ok rfl rfl ?_
    refine wl_nil (wx_block (wx_then (wc_region ?_)))
    refine wl_pure (v := .int .i64 (IntKind.wrap .i64 (j7_8 + (1 : Int)))) tt_ok rfl rfl ?_
    refine wl_pure tt_ok rfl rfl ?_
    refine wl_nil ?_
    exact wx_round m7 (Nat.lt_succ_self m7) ⟨(IntKind.wrap .u64 ((bits .xor .u64 j7_0 (IntKind.wrap .u64 (v14.toNat : Int))) * (1099511628211 : Int))), (IntKind.wrap .i64 (j7_8 + (1 : Int))), h, rfl, rfl⟩ (agree_cons rfl (agree_cons rfl (agree_cons rfl (agree_cons rfl (agree_cons rfl agree_nil))))) (pSub pNil)
  replace h := cf hc h
  refine wc_exit (wx_then_exit ?_)
  simp only [Option.some.injEq] at h
  obtain rfl := h
  have h := hl7; clear hl7; try dsimp only [orE_l, orE_r] at h
  refine wx_then_exit (wx_block_exit (wx_then (wc_seq (wc_region ?_))))
  iterate 2 refine wl_pure tt_ok rfl rfl ?_
  refine wl_nil (wx_then (wc_ret ?_))
  simp only [Option.some.injEq] at h
  obtain rfl := h
  exact wx_pf tt_ok (.inl rfl) Tryd.results28 (Res.tmp rfl Res.nil) rfl

theorem k_digest_Of {F : Nat} {p0 : T_api_State} {p0a0 : Option Addr} {p0n0 p0c0 : Nat} {r0 : Int} (p0N0 : p0n0 = p0.Shots.length) (p0H0 : p0n0 ≤ p0c0) (h : m_digest_Of F p0 = some r0) :
    Pf Tryd.prog 20 [.agg #[.int .u64 p0.Frame, .int .u64 p0.Seed, .int .i32 p0.Players.1.X, .int .i32 p0.Players.1.Y, .int .i32 p0.Players.1.VX, .int .i32 p0.Players.1.VY, .int .u8 p0.Players.1.Health, .int .u8 p0.Players.1.Cool, .int .u8 p0.Players.1.Face, .int .i32 p0.Players.2.X, .int .i32 p0.Players.2.Y, .int .i32 p0.Players.2.VX, .int .i32 p0.Players.2.VY, .int .u8 p0.Players.2.Health, .int .u8 p0.Players.2.Cool, .int .u8 p0.Players.2.Face, .slice p0a0 p0n0 p0c0, .int .u16 p0.Score.1, .int .u16 p0.Score.2]] (fun w => Rds w [] [] p0a0 (flat c_T_api_Shot p0.Shots) ∧ Rds w [] [] (some ⟨0, 0, none⟩) (flat (fun _ : Unit => gl_state_playerBounds) [()]) ∧ Rds w [] [] (some ⟨1, 0, none⟩) (flat (fun _ : Unit => gl_state_shotBounds) [()])) (.int .u64 r0) := by
  unfold m_digest_Of at h
  refine pf_of_wc Tryd.func20 rfl Tryd.ntmps20 rfl rfl (fun w0 hR => ?_)
  obtain ⟨p0S0, G0S, G1S⟩ := hR
  refine wc_seq (wc_region ?_)
  refine wl_box rfl rfl rfl (fun b1 => ?_)
  refine wl_pure tt_ok rfl rfl ?_
  refine wl_nil (wx_then (wc_seq (wc_region ?_)))
  refine wl_val (v := .agg #[.int .u64 p0.Frame, .int .u64 p0.Seed, .int .i32 p0.Players.1.X, .int .i32 p0.Players.1.Y, .int .i32 p0.Players.1.VX, .int .i32 p0.Players.1.VY, .int .u8 p0.Players.1.Health, .int .u8 p0.Players.1.Cool, .int .u8 p0.Players.1.Face, .int .i32 p0.Players.2.X, .int .i32 p0.Players.2.Y, .int .i32 p0.Players.2.VX, .int .i32 p0.Players.2.VY, .int .u8 p0.Players.2.Health, .int .u8 p0.Players.2.Cool, .int .u8 p0.Players.2.Face, .slice p0a0 p0n0 p0c0, .int .u16 p0.Score.1, .int .u16 p0.Score.2]) (val_load tt_ok rfl (List.Mem.head _) rfl) rfl ?_
  replace h := bsome h; obtain ⟨v4, x4, h⟩ := h
  refine wl_cq Tryd.call29 rfl rfl rfl (q_pf (k_state_Put (p0 := p0) p0N0 p0H0 x4) (fun w hI => ⟨(Rds.call p0S0 pNil rsub_nil) w hI, (Rds.call G0S pNil rsub_nil) w hI, (Rds.call G1S pNil rsub_nil) w hI⟩)) rfl ?_
  replace h := bsome h; obtain ⟨v5, x5, h⟩ := h
  refine wl_cq Tryd.call28 rfl rfl rfl (q_pf (k_digest_Join x5) (fun _ _ => trivial)) rfl ?_
  refine wl_pure tt_ok rfl rfl ?_
  refine wl_nil (wx_then (wc_ret ?_))
  simp only [Option.some.injEq] at h
  obtain rfl := h
  exact wx_pf tt_ok (.inl rfl) Tryd.results20 (Res.tmp rfl Res.nil) rfl

theorem k_watch_Watch_State {F : Nat} {p0 : T_watch_Watch} {p0b p0t : Nat} {p0a0 : Option Addr} {p0n0 : Nat} {p0c0 : Nat} {p0B0 : List Blk} {p1 : T_api_State} {p1a0 : Option Addr} {p1n0 p1c0 : Nat} {r0 : T_watch_Watch} {r1 : Int} (p0N0 : p0n0 = p0.l.length) (p0V0 : Own 73 5 p0a0 p0n0 p0c0 (flat c_T_watch_entry p0.l) p0B0) (p1N0 : p1n0 = p1.Shots.length) (p1H0 : p1n0 ≤ p1c0) (h : m_watch_Watch_State F p0 p1 = some (r0, r1)) :
    SpD Tryd.prog 18 [.pointer (some ⟨p0b, 0, none⟩), .agg #[.int .u64 p1.Frame, .int .u64 p1.Seed, .int .i32 p1.Players.1.X, .int .i32 p1.Players.1.Y, .int .i32 p1.Players.1.VX, .int .i32 p1.Players.1.VY, .int .u8 p1.Players.1.Health, .int .u8 p1.Players.1.Cool, .int .u8 p1.Players.1.Face, .int .i32 p1.Players.2.X, .int .i32 p1.Players.2.Y, .int .i32 p1.Players.2.VX, .int .i32 p1.Players.2.VY, .int .u8 p1.Players.2.Health, .int .u8 p1.Players.2.Cool, .int .u8 p1.Players.2.Face, .slice p1a0 p1n0 p1c0, .int .u16 p1.Score.1, .int .u16 p1.Score.2]] (⟨p0b, [.int .u64 p0.rows, .slice p0a0 p0n0 p0c0, .bool p0.clashed], p0t, (0, 0)⟩ :: (p0B0 ++ [])) (fun w => Rds w (ids (⟨p0b, [.int .u64 p0.rows, .slice p0a0 p0n0 p0c0, .bool p0.clashed], p0t, (0, 0)⟩ :: (p0B0 ++ []))) [] p1a0 (flat c_T_api_Shot p1.Shots) ∧ Rds w (ids (⟨p0b, [.int .u64 p0.rows, .slice p0a0 p0n0 p0c0, .bool p0.clashed], p0t, (0, 0)⟩ :: (p0B0 ++ []))) [] (some ⟨0, 0, none⟩) (flat (fun _ : Unit => gl_state_playerBounds) [()]) ∧ Rds w (ids (⟨p0b, [.int .u64 p0.rows, .slice p0a0 p0n0 p0c0, .bool p0.clashed], p0t, (0, 0)⟩ :: (p0B0 ++ []))) [] (some ⟨1, 0, none⟩) (flat (fun _ : Unit => gl_state_shotBounds) [()])) (fun v D => ∃ (r0a0 : Option Addr) (r0n0 : Nat) (r0c0 : Nat) (r0B0 : List Blk), r0n0 = r0.l.length ∧ Own 73 5 r0a0 r0n0 r0c0 (flat c_T_watch_entry r0.l) r0B0 ∧ v = .int .i64 r1 ∧ D = fun F => (⟨p0b, [.int .u64 r0.rows, .slice r0a0 r0n0 r0c0, .bool r0.clashed], p0t, (0, 0)⟩ :: (r0B0 ++ F))) := by
  unfold m_watch_Watch_State at h
  refine sp_of_wc Tryd.func18 rfl Tryd.ntmps18 rfl rfl (fun w0 hR => ?_)
  obtain ⟨p1S0, G0S, G1S⟩ := hR
  refine wc_seq (wc_region ?_)
  refine wl_box rfl rfl rfl (fun b3 => ?_)
  refine wl_pure tt_ok rfl rfl ?_
  refine wl_nil (wx_then (wc_seq (wc_block (wc_seq (wc_region ?_)))))
  refine wl_pure tt_ok rfl rfl ?_
  replace h := bsome h; obtain ⟨v7, x7, h⟩ := h
  refine wl_cq Tryd.call24 rfl rfl rfl (q_rd (k_watch_Watch_is (p0 := p0) p0N0 p0V0 x7) (pCons (Sel.sc Sel.hc) (pApp (Sel.sc Sel.ha) pNil)) (fun _ _ => trivial)) rfl ?_
  refine wl_pure (v := .bool (!v7)) tt_ok rfl rfl ?_
  refine wl_pure tt_ok rfl rfl ?_
  refine wl_nil (wx_then ?_)
  refine wc_cond rfl (fun hc => ?_) (fun hc => ?_)
  · replace h := ct hc h
    refine wc_seq (wc_region ?_)
    refine wl_pure tt_ok rfl rfl ?_
    refine wl_nil (wx_then (wc_ret (wx_block_ret (wx_then_ret ?_))))
    simp only [Option.some.injEq, Prod.mk.injEq] at h
    obtain ⟨rfl, rfl⟩ := h
    exact wx_spD tt_ok (.inl rfl) Tryd.results18 (Res.tmp rfl Res.nil) ⟨p0a0, p0n0, p0c0, p0B0, p0N0, p0V0, rfl, rfl⟩ (fun F => by simp) (pSub (pCons (Sel.sc Sel.hc) (pApp (Sel.sc Sel.ha) pNil)))
  replace h := cf hc h
  refine wc_seq ?_
  refine wc_quiet (by kernel_rfl) (by kernel_rfl) ?_
  refine wq_pure (v := .pointer (some ⟨b3, 0, none⟩)) tt_ok rfl rfl ?_
  refine wq_val (v := .int .u64 p1.Frame) (val_load tt_ok rfl (List.Mem.head _) rfl) rfl ?_
  refine wq_pure tt_ok rfl rfl ?_
  refine wq_pure tt_ok rfl rfl ?_
  refine wq_pure (v := .pointer (some ⟨p0b, 0, none⟩)) tt_ok rfl rfl ?_
  refine wq_val (v := .int .u64 p0.rows) (val_load tt_ok rfl (List.Mem.tail _ (List.Mem.head _)) rfl) rfl ?_
  replace h := bsome h; obtain ⟨v16, x16, h⟩ := h
  refine wq_val (v := .int .u64 v16) (val_rem rfl rfl x16) rfl ?_
  refine wq_pure (v := .bool (v16 != (0 : Int))) tt_ok rfl rfl ?_
  refine wq_pure tt_ok rfl rfl ?_
  refine wq_nil ?_
  refine wx_then ?_
  refine wc_cond rfl (fun hc => ?_) (fun hc => ?_)
  · replace h := ct hc h
    refine wc_seq (wc_region ?_)
    refine wl_pure tt_ok rfl rfl ?_
    refine wl_nil (wx_then (wc_ret (wx_block_ret (wx_then_ret ?_))))
    simp only [Option.some.injEq, Prod.mk.injEq] at h
    obtain ⟨rfl, rfl⟩ := h
    exact wx_spD tt_ok (.inl rfl) Tryd.results18 (Res.tmp rfl Res.nil) ⟨p0a0, p0n0, p0c0, p0B0, p0N0, p0V0, rfl, rfl⟩ (fun F => by simp) (pSub (pCons (Sel.sc Sel.hc) (pApp (Sel.sc Sel.ha) pNil)))
  replace h := cf hc h
  refine wc_skip (wx_block (wx_then (wc_seq ?_)))
  refine wc_k2 (Ls := (⟨b3, [.int .u64 p1.Frame, .int .u64 p1.Seed, .int .i32 p1.Players.1.X, .int .i32 p1.Players.1.Y, .int .i32 p1.Players.1.VX, .int .i32 p1.Players.1.VY, .int .u8 p1.Players.1.Health, .int .u8 p1.Players.1.Cool, .int .u8 p1.Players.1.Face, .int .i32 p1.Players.2.X, .int .i32 p1.Players.2.Y, .int .i32 p1.Players.2.VX, .int .i32 p1.Players.2.VY, .int .u8 p1.Players.2.Health, .int .u8 p1.Players.2.Cool, .int .u8 p1.Players.2.Face, .slice p1a0 p1n0 p1c0, .int .u16 p1.Score.1, .int .u16 p1.Score.2], 41, (0, 0)⟩ :: (⟨p0b, [.int .u64 p0.rows, .slice p0a0 p0n0 p0c0, .bool p0.clashed], p0t, (0, 0)⟩ :: (p0B0 ++ [])))) [4, 5, 6] [5, 6] [0, 0, 2, 0, 8, 31, 63] [0, 1, 2, 3, 4, 5, 6] (by kernel_rfl) (by kernel_rfl) (by kernel_rfl) ?_
  refine k_val rfl rfl rfl (pSub (pCons Sel.hc (pCons Sel.hc (pApp Sel.ha pNil)))) (stepV_ok tt_ok rfl) rfl ?_
  refine k_val (v := .pointer (some ⟨b3, 0, none⟩)) rfl rfl rfl (pSub (pCons Sel.hc (pCons Sel.hc (pApp Sel.ha pNil)))) (stepV_ok tt_ok rfl) rfl ?_
  refine k_val (v := .int .u64 p1.Frame) rfl rfl rfl (pSub (pCons Sel.hc (pCons Sel.hc (pApp Sel.ha pNil)))) (val_load tt_ok rfl (List.Mem.head _) rfl) rfl ?_
  refine k_val (v := .agg #[.int .u64 p1.Frame, .int .u64 p1.Seed, .int .i32 p1.Players.1.X, .int .i32 p1.Players.1.Y, .int .i32 p1.Players.1.VX, .int .i32 p1.Players.1.VY, .int .u8 p1.Players.1.Health, .int .u8 p1.Players.1.Cool, .int .u8 p1.Players.1.Face, .int .i32 p1.Players.2.X, .int .i32 p1.Players.2.Y, .int .i32 p1.Players.2.VX, .int .i32 p1.Players.2.VY, .int .u8 p1.Players.2.Health, .int .u8 p1.Players.2.Cool, .int .u8 p1.Players.2.Face, .slice p1a0 p1n0 p1c0, .int .u16 p1.Score.1, .int .u16 p1.Score.2]) rfl rfl rfl (pSub (pCons Sel.hc (pCons Sel.hc (pApp Sel.ha pNil)))) (val_load tt_ok rfl (List.Mem.head _) rfl) rfl ?_
  replace h := bsome h; obtain ⟨v22, x22, h⟩ := h
  refine k_cq rfl rfl rfl Tryd.call20 rfl rfl rfl (q_pf (k_digest_Of (p0 := p1) p1N0 p1H0 x22) (fun w hI => ⟨(Rds.call p1S0 pNil rsub_nil) w hI, (Rds.call G0S pNil rsub_nil) w hI, (Rds.call G1S pNil rsub_nil) w hI⟩)) rfl (pSub (pCons Sel.hc (pCons Sel.hc (pApp Sel.ha pNil)))) ?_
  replace h := bsome h; obtain ⟨⟨o23_0, v23⟩, x23, h⟩ := h; try dsimp only at h
  refine k_cs rfl rfl rfl Tryd.call16 rfl rfl rfl (s_sp (k_watch_Watch_Own (p0 := p0) p0N0 p0V0 x23) (pCons (Sel.sc Sel.hc) (pApp (Sel.sc Sel.ha) pNil)) (fun _ _ => trivial)) rfl (.inl rfl) ?_
  rintro _ _ ⟨_, ⟨o23_0a0, o23_0n0, o23_0c0, o23_0B0, o23_0N0, o23_0V0, rfl, rfl⟩, rfl⟩
  refine k_chg rfl rfl rfl (Chg.of_val (stepV_ok tt_ok rfl)) rfl (.inl rfl) ?_
  rintro _ _ ⟨rfl, rfl⟩
  refine k_end (by kernel_rfl) ?_
  refine wx_then (wc_ret ?_)
  simp only [Option.some.injEq, Prod.mk.injEq] at h
  obtain ⟨rfl, rfl⟩ := h
  exact wx_spD tt_ok (.inl rfl) Tryd.results18 (Res.tmp rfl Res.nil) ⟨o23_0a0, o23_0n0, o23_0c0, o23_0B0, o23_0N0, o23_0V0, rfl, rfl⟩ (fun F => by simp) (pSub (pCons Sel.hc (pApp Sel.ha pNil)))

theorem k_hindcastref08_in {F : Nat} {p0 : Int} {p1 : Int} {p2 : Int} {r0 : Bool} (h : m_hindcastref08_in F p0 p1 p2 = some r0) :
    Pf Tryd.prog 99 [.int .i32 p0, .int .i32 p1, .int .i32 p2] (fun w => True) (.bool r0) := by
  unfold m_hindcastref08_in at h
  refine pf_of_wc Tryd.func99 rfl Tryd.ntmps99 rfl rfl (fun w0 hR => ?_)
  refine wc_seq (wc_region ?_)
  refine wl_pure tt_ok rfl rfl ?_
  refine wl_nil (wx_then (wc_seq (wc_region ?_)))
  iterate 2 refine wl_pure tt_ok rfl rfl ?_
  refine wl_pure (v := .bool (decide (p1 ≤ p0))) tt_ok rfl rfl ?_
  refine wl_pure tt_ok rfl rfl ?_
  replace h := bsome h; obtain ⟨v14, h, hg14⟩ := h
  refine wl_split (t := 10) rfl (fun hc => ?_) (fun hc => ?_)
  · replace h := ct hc h
    refine wl_run rfl ?_
    refine wl_pure tt_ok rfl rfl ?_
    refine wl_run rfl ?_
    refine wl_pure tt_ok rfl rfl ?_
    refine wl_run rfl ?_
    refine wl_pure (v := .bool (decide (p0 ≤ p2))) tt_ok rfl rfl ?_
    simp only [Option.some.injEq, Prod.mk.injEq] at h
    obtain rfl := h
    have h := hg14; clear hg14
    refine wl_pure (v := .bool (decide (p0 ≤ p2))) tt_ok rfl rfl ?_
    refine wl_pure tt_ok rfl rfl ?_
    refine wl_nil (wx_then (wc_ret ?_))
    simp only [Option.some.injEq] at h
    obtain rfl := h
    exact wx_pf tt_ok (.inl rfl) Tryd.results99 (Res.tmp rfl Res.nil) rfl
  replace h := cf hc h
  refine wl_skip rfl rfl ?_
  refine wl_skip rfl rfl ?_
  refine wl_skip rfl rfl ?_
  simp only [Option.some.injEq, Prod.mk.injEq] at h
  obtain rfl := h
  have h := hg14; clear hg14
  refine wl_pure (v := .bool false) tt_ok rfl rfl ?_
  refine wl_pure tt_ok rfl rfl ?_
  refine wl_nil (wx_then (wc_ret ?_))
  simp only [Option.some.injEq] at h
  obtain rfl := h
  exact wx_pf tt_ok (.inl rfl) Tryd.results99 (Res.tmp rfl Res.nil) rfl

theorem k_hindcastref08_Player {F : Nat} {p0 : T_api_Player} {r0 : Bool} (h : m_hindcastref08_Player F p0 = some r0) :
    Pf Tryd.prog 96 [.agg #[.int .i32 p0.X, .int .i32 p0.Y, .int .i32 p0.VX, .int .i32 p0.VY, .int .u8 p0.Health, .int .u8 p0.Cool, .int .u8 p0.Face]] (fun w => True) (.bool r0) := by
  unfold m_hindcastref08_Player at h
  refine pf_of_wc Tryd.func96 rfl Tryd.ntmps96 rfl rfl (fun w0 hR => ?_)
  refine wc_seq (wc_region ?_)
  refine wl_box rfl rfl rfl (fun b1 => ?_)
  refine wl_pure tt_ok rfl rfl ?_
  refine wl_nil (wx_then (wc_seq (wc_region ?_)))
  refine wl_pure (v := .pointer (some ⟨b1, 0, none⟩)) tt_ok rfl rfl ?_
  refine wl_val (v := .int .i32 p0.X) (val_load tt_ok rfl (List.Mem.head _) rfl) rfl ?_
  replace h := bsome h; obtain ⟨v5, x5, h⟩ := h
  refine wl_cq Tryd.call99 rfl rfl rfl (q_pf (k_hindcastref08_in x5) (fun _ _ => trivial)) rfl ?_
  refine wl_pure tt_ok rfl rfl ?_
  replace h := bsome h; obtain ⟨v10, h, hg10⟩ := h
  refine wl_split (t := 6) rfl (fun hc => ?_) (fun hc => ?_)
  · replace h := ct hc h
    refine wl_run rfl ?_
    refine wl_pure (v := .pointer (some ⟨b1, 1, none⟩)) tt_ok rfl rfl ?_
    refine wl_run rfl ?_
    refine wl_val (v := .int .i32 p0.Y) (val_load tt_ok rfl (List.Mem.head _) rfl) rfl ?_
    replace h := bsome h; obtain ⟨v9, x9, h⟩ := h
    refine wl_run rfl ?_
    refine wl_cq Tryd.call99 rfl rfl rfl (q_pf (k_hindcastref08_in x9) (fun _ _ => trivial)) rfl ?_
    simp only [Option.some.injEq, Prod.mk.injEq] at h
    obtain rfl := h
    have h := hg10; clear hg10
    refine wl_pure (v := .bool v9) tt_ok rfl rfl ?_
    refine wl_pure tt_ok rfl rfl ?_
    replace h := bsome h; obtain ⟨v15, h, hg15⟩ := h
    refine wl_split (t := 11) rfl (fun hc => ?_) (fun hc => ?_)
    · replace h := ct hc h
      refine wl_run rfl ?_
      refine wl_pure (v := .pointer (some ⟨b1, 2, none⟩)) tt_ok rfl rfl ?_
      refine wl_run rfl ?_
      refine wl_val (v := .int .i32 p0.VX) (val_load tt_ok rfl (List.Mem.head _) rfl) rfl ?_
      replace h := bsome h; obtain ⟨v14, x14, h⟩ := h
      refine wl_run rfl ?_
      refine wl_cq Tryd.call99 rfl rfl rfl (q_pf (k_hindcastref08_in x14) (fun _ _ => trivial)) rfl ?_
      simp only [Option.some.injEq, Prod.mk.injEq] at h
      obtain rfl := h
      have h := hg15; clear hg15
      refine wl_pure (v := .bool v14) tt_ok rfl rfl ?_
      refine wl_pure tt_ok rfl rfl ?_
      replace h := bsome h; obtain ⟨v20, h, hg20⟩ := h
      refine wl_split (t := 16) rfl (fun hc => ?_) (fun hc => ?_)
      · replace h := ct hc h
        refine wl_run rfl ?_
        refine wl_pure (v := .pointer (some ⟨b1, 3, none⟩)) tt_ok rfl rfl ?_
        refine wl_run rfl ?_
        refine wl_val (v := .int .i32 p0.VY) (val_load tt_ok rfl (List.Mem.head _) rfl) rfl ?_
        replace h := bsome h; obtain ⟨v19, x19, h⟩ := h
        refine wl_run rfl ?_
        refine wl_cq Tryd.call99 rfl rfl rfl (q_pf (k_hindcastref08_in x19) (fun _ _ => trivial)) rfl ?_
        simp only [Option.some.injEq, Prod.mk.injEq] at h
        obtain rfl := h
        have h := hg20; clear hg20
        refine wl_pure (v := .bool v19) tt_ok rfl rfl ?_
        refine wl_pure tt_ok rfl rfl ?_
        replace h := bsome h; obtain ⟨v25, h, hg25⟩ := h
        refine wl_split (t := 21) rfl (fun hc => ?_) (fun hc => ?_)
        · replace h := ct hc h
          refine wl_run rfl ?_
          refine wl_pure (v := .pointer (some ⟨b1, 4, none⟩)) tt_ok rfl rfl ?_
          refine wl_run rfl ?_
          refine wl_val (v := .int .u8 p0.Health) (val_load tt_ok rfl (List.Mem.head _) rfl) rfl ?_
          refine wl_run rfl ?_
          refine wl_pure (v := .bool (decide ((1 : Int) ≤ p0.Health))) tt_ok rfl rfl ?_
          simp only [Option.some.injEq, Prod.mk.injEq] at h
          obtain rfl := h
          have h := hg25; clear hg25
          refine wl_pure (v := .bool (decide ((1 : Int) ≤ p0.Health))) tt_ok rfl rfl ?_
          refine wl_pure tt_ok rfl rfl ?_
          replace h := bsome h; obtain ⟨v30, h, hg30⟩ := h
          refine wl_split (t := 26) rfl (fun hc => ?_) (fun hc => ?_)
          · replace h := ct hc h
            refine wl_run rfl ?_
            refine wl_pure (v := .pointer (some ⟨b1, 4, none⟩)) tt_ok rfl rfl ?_
            refine wl_run rfl ?_
            refine wl_val (v := .int .u8 p0.Health) (val_load tt_ok rfl (List.Mem.head _) rfl) rfl ?_
            refine wl_run rfl ?_
            refine wl_pure (v := .bool (decide (p0.Health ≤ (100 : Int)))) tt_ok rfl rfl ?_
            simp only [Option.some.injEq, Prod.mk.injEq] at h
            obtain rfl := h
            have h := hg30; clear hg30
            refine wl_pure (v := .bool (decide (p0.Health ≤ (100 : Int)))) tt_ok rfl rfl ?_
            refine wl_pure tt_ok rfl rfl ?_
            replace h := bsome h; obtain ⟨v35, h, hg35⟩ := h
            refine wl_split (t := 31) rfl (fun hc => ?_) (fun hc => ?_)
            · replace h := ct hc h
              refine wl_run rfl ?_
              refine wl_pure (v := .pointer (some ⟨b1, 5, none⟩)) tt_ok rfl rfl ?_
              refine wl_run rfl ?_
              refine wl_val (v := .int .u8 p0.Cool) (val_load tt_ok rfl (List.Mem.head _) rfl) rfl ?_
              refine wl_run rfl ?_
              refine wl_pure (v := .bool (decide (p0.Cool ≤ (30 : Int)))) tt_ok rfl rfl ?_
              simp only [Option.some.injEq, Prod.mk.injEq] at h
              obtain rfl := h
              have h := hg35; clear hg35
              refine wl_pure (v := .bool (decide (p0.Cool ≤ (30 : Int)))) tt_ok rfl rfl ?_
              refine wl_pure tt_ok rfl rfl ?_
              replace h := bsome h; obtain ⟨v40, h, hg40⟩ := h
              refine wl_split (t := 36) rfl (fun hc => ?_) (fun hc => ?_)
              · replace h := ct hc h
                refine wl_run rfl ?_
                refine wl_pure (v := .pointer (some ⟨b1, 6, none⟩)) tt_ok rfl rfl ?_
                refine wl_run rfl ?_
                refine wl_val (v := .int .u8 p0.Face) (val_load tt_ok rfl (List.Mem.head _) rfl) rfl ?_
                refine wl_run rfl ?_
                refine wl_pure (v := .bool (decide (p0.Face ≤ (3 : Int)))) tt_ok rfl rfl ?_
                simp only [Option.some.injEq, Prod.mk.injEq] at h
                obtain rfl := h
                have h := hg40; clear hg40
                refine wl_pure (v := .bool (decide (p0.Face ≤ (3 : Int)))) tt_ok rfl rfl ?_
                refine wl_pure tt_ok rfl rfl ?_
                refine wl_nil (wx_then (wc_ret ?_))
                simp only [Option.some.injEq] at h
                obtain rfl := h
                exact wx_pf tt_ok (.inl rfl) Tryd.results96 (Res.tmp rfl Res.nil) rfl
              replace h := cf hc h
              refine wl_skip rfl rfl ?_
              refine wl_skip rfl rfl ?_
              refine wl_skip rfl rfl ?_
              simp only [Option.some.injEq, Prod.mk.injEq] at h
              obtain rfl := h
              have h := hg40; clear hg40
              refine wl_pure (v := .bool false) tt_ok rfl rfl ?_
              refine wl_pure tt_ok rfl rfl ?_
              refine wl_nil (wx_then (wc_ret ?_))
              simp only [Option.some.injEq] at h
              obtain rfl := h
              exact wx_pf tt_ok (.inl rfl) Tryd.results96 (Res.tmp rfl Res.nil) rfl
            replace h := cf hc h
            refine wl_skip rfl rfl ?_
            refine wl_skip rfl rfl ?_
            refine wl_skip rfl rfl ?_
            simp only [Option.some.injEq, Prod.mk.injEq] at h
            obtain rfl := h
            have h := hg35; clear hg35
            refine wl_pure (v := .bool false) tt_ok rfl rfl ?_
            refine wl_pure tt_ok rfl rfl ?_
            replace h := bsome h; obtain ⟨v40, h, hg40⟩ := h
            replace h := cf rfl h
            refine wl_skip rfl rfl ?_
            refine wl_skip rfl rfl ?_
            refine wl_skip rfl rfl ?_
            simp only [Option.some.injEq, Prod.mk.injEq] at h
            obtain rfl := h
            have h := hg40; clear hg40
            refine wl_pure (v := .bool false) tt_ok rfl rfl ?_
            refine wl_pure tt_ok rfl rfl ?_
            refine wl_nil (wx_then (wc_ret ?_))
            simp only [Option.some.injEq] at h
            obtain rfl := h
            exact wx_pf tt_ok (.inl rfl) Tryd.results96 (Res.tmp rfl Res.nil) rfl
          replace h := cf hc h
          refine wl_skip rfl rfl ?_
          refine wl_skip rfl rfl ?_
          refine wl_skip rfl rfl ?_
          simp only [Option.some.injEq, Prod.mk.injEq] at h
          obtain rfl := h
          have h := hg30; clear hg30
          refine wl_pure (v := .bool false) tt_ok rfl rfl ?_
          refine wl_pure tt_ok rfl rfl ?_
          replace h := bsome h; obtain ⟨v35, h, hg35⟩ := h
          replace h := cf rfl h
          refine wl_skip rfl rfl ?_
          refine wl_skip rfl rfl ?_
          refine wl_skip rfl rfl ?_
          simp only [Option.some.injEq, Prod.mk.injEq] at h
          obtain rfl := h
          have h := hg35; clear hg35
          refine wl_pure (v := .bool false) tt_ok rfl rfl ?_
          refine wl_pure tt_ok rfl rfl ?_
          replace h := bsome h; obtain ⟨v40, h, hg40⟩ := h
          replace h := cf rfl h
          refine wl_skip rfl rfl ?_
          refine wl_skip rfl rfl ?_
          refine wl_skip rfl rfl ?_
          simp only [Option.some.injEq, Prod.mk.injEq] at h
          obtain rfl := h
          have h := hg40; clear hg40
          refine wl_pure (v := .bool false) tt_ok rfl rfl ?_
          refine wl_pure tt_ok rfl rfl ?_
          refine wl_nil (wx_then (wc_ret ?_))
          simp only [Option.some.injEq] at h
          obtain rfl := h
          exact wx_pf tt_ok (.inl rfl) Tryd.results96 (Res.tmp rfl Res.nil) rfl
        replace h := cf hc h
        refine wl_skip rfl rfl ?_
        refine wl_skip rfl rfl ?_
        refine wl_skip rfl rfl ?_
        simp only [Option.some.injEq, Prod.mk.injEq] at h
        obtain rfl := h
        have h := hg25; clear hg25
        refine wl_pure (v := .bool false) tt_ok rfl rfl ?_
        refine wl_pure tt_ok rfl rfl ?_
        replace h := bsome h; obtain ⟨v30, h, hg30⟩ := h
        replace h := cf rfl h
        refine wl_skip rfl rfl ?_
        refine wl_skip rfl rfl ?_
        refine wl_skip rfl rfl ?_
        simp only [Option.some.injEq, Prod.mk.injEq] at h
        obtain rfl := h
        have h := hg30; clear hg30
        refine wl_pure (v := .bool false) tt_ok rfl rfl ?_
        refine wl_pure tt_ok rfl rfl ?_
        replace h := bsome h; obtain ⟨v35, h, hg35⟩ := h
        replace h := cf rfl h
        refine wl_skip rfl rfl ?_
        refine wl_skip rfl rfl ?_
        refine wl_skip rfl rfl ?_
        simp only [Option.some.injEq, Prod.mk.injEq] at h
        obtain rfl := h
        have h := hg35; clear hg35
        refine wl_pure (v := .bool false) tt_ok rfl rfl ?_
        refine wl_pure tt_ok rfl rfl ?_
        replace h := bsome h; obtain ⟨v40, h, hg40⟩ := h
        replace h := cf rfl h
        refine wl_skip rfl rfl ?_
        refine wl_skip rfl rfl ?_
        refine wl_skip rfl rfl ?_
        simp only [Option.some.injEq, Prod.mk.injEq] at h
        obtain rfl := h
        have h := hg40; clear hg40
        refine wl_pure (v := .bool false) tt_ok rfl rfl ?_
        refine wl_pure tt_ok rfl rfl ?_
        refine wl_nil (wx_then (wc_ret ?_))
        simp only [Option.some.injEq] at h
        obtain rfl := h
        exact wx_pf tt_ok (.inl rfl) Tryd.results96 (Res.tmp rfl Res.nil) rfl
      replace h := cf hc h
      refine wl_skip rfl rfl ?_
      refine wl_skip rfl rfl ?_
      refine wl_skip rfl rfl ?_
      simp only [Option.some.injEq, Prod.mk.injEq] at h
      obtain rfl := h
      have h := hg20; clear hg20
      refine wl_pure (v := .bool false) tt_ok rfl rfl ?_
      refine wl_pure tt_ok rfl rfl ?_
      replace h := bsome h; obtain ⟨v25, h, hg25⟩ := h
      replace h := cf rfl h
      refine wl_skip rfl rfl ?_
      refine wl_skip rfl rfl ?_
      refine wl_skip rfl rfl ?_
      simp only [Option.some.injEq, Prod.mk.injEq] at h
      obtain rfl := h
      have h := hg25; clear hg25
      refine wl_pure (v := .bool false) tt_ok rfl rfl ?_
      refine wl_pure tt_ok rfl rfl ?_
      replace h := bsome h; obtain ⟨v30, h, hg30⟩ := h
      replace h := cf rfl h
      refine wl_skip rfl rfl ?_
      refine wl_skip rfl rfl ?_
      refine wl_skip rfl rfl ?_
      simp only [Option.some.injEq, Prod.mk.injEq] at h
      obtain rfl := h
      have h := hg30; clear hg30
      refine wl_pure (v := .bool false) tt_ok rfl rfl ?_
      refine wl_pure tt_ok rfl rfl ?_
      replace h := bsome h; obtain ⟨v35, h, hg35⟩ := h
      replace h := cf rfl h
      refine wl_skip rfl rfl ?_
      refine wl_skip rfl rfl ?_
      refine wl_skip rfl rfl ?_
      simp only [Option.some.injEq, Prod.mk.injEq] at h
      obtain rfl := h
      have h := hg35; clear hg35
      refine wl_pure (v := .bool false) tt_ok rfl rfl ?_
      refine wl_pure tt_ok rfl rfl ?_
      replace h := bsome h; obtain ⟨v40, h, hg40⟩ := h
      replace h := cf rfl h
      refine wl_skip rfl rfl ?_
      refine wl_skip rfl rfl ?_
      refine wl_skip rfl rfl ?_
      simp only [Option.some.injEq, Prod.mk.injEq] at h
      obtain rfl := h
      have h := hg40; clear hg40
      refine wl_pure (v := .bool false) tt_ok rfl rfl ?_
      refine wl_pure tt_ok rfl rfl ?_
      refine wl_nil (wx_then (wc_ret ?_))
      simp only [Option.some.injEq] at h
      obtain rfl := h
      exact wx_pf tt_ok (.inl rfl) Tryd.results96 (Res.tmp rfl Res.nil) rfl
    replace h := cf hc h
    refine wl_skip rfl rfl ?_
    refine wl_skip rfl rfl ?_
    refine wl_skip rfl rfl ?_
    simp only [Option.some.injEq, Prod.mk.injEq] at h
    obtain rfl := h
    have h := hg15; clear hg15
    refine wl_pure (v := .bool false) tt_ok rfl rfl ?_
    refine wl_pure tt_ok rfl rfl ?_
    replace h := bsome h; obtain ⟨v20, h, hg20⟩ := h
    replace h := cf rfl h
    refine wl_skip rfl rfl ?_
    refine wl_skip rfl rfl ?_
    refine wl_skip rfl rfl ?_
    simp only [Option.some.injEq, Prod.mk.injEq] at h
    obtain rfl := h
    have h := hg20; clear hg20
    refine wl_pure (v := .bool false) tt_ok rfl rfl ?_
    refine wl_pure tt_ok rfl rfl ?_
    replace h := bsome h; obtain ⟨v25, h, hg25⟩ := h
    replace h := cf rfl h
    refine wl_skip rfl rfl ?_
    refine wl_skip rfl rfl ?_
    refine wl_skip rfl rfl ?_
    simp only [Option.some.injEq, Prod.mk.injEq] at h
    obtain rfl := h
    have h := hg25; clear hg25
    refine wl_pure (v := .bool false) tt_ok rfl rfl ?_
    refine wl_pure tt_ok rfl rfl ?_
    replace h := bsome h; obtain ⟨v30, h, hg30⟩ := h
    replace h := cf rfl h
    refine wl_skip rfl rfl ?_
    refine wl_skip rfl rfl ?_
    refine wl_skip rfl rfl ?_
    simp only [Option.some.injEq, Prod.mk.injEq] at h
    obtain rfl := h
    have h := hg30; clear hg30
    refine wl_pure (v := .bool false) tt_ok rfl rfl ?_
    refine wl_pure tt_ok rfl rfl ?_
    replace h := bsome h; obtain ⟨v35, h, hg35⟩ := h
    replace h := cf rfl h
    refine wl_skip rfl rfl ?_
    refine wl_skip rfl rfl ?_
    refine wl_skip rfl rfl ?_
    simp only [Option.some.injEq, Prod.mk.injEq] at h
    obtain rfl := h
    have h := hg35; clear hg35
    refine wl_pure (v := .bool false) tt_ok rfl rfl ?_
    refine wl_pure tt_ok rfl rfl ?_
    replace h := bsome h; obtain ⟨v40, h, hg40⟩ := h
    replace h := cf rfl h
    refine wl_skip rfl rfl ?_
    refine wl_skip rfl rfl ?_
    refine wl_skip rfl rfl ?_
    simp only [Option.some.injEq, Prod.mk.injEq] at h
    obtain rfl := h
    have h := hg40; clear hg40
    refine wl_pure (v := .bool false) tt_ok rfl rfl ?_
    refine wl_pure tt_ok rfl rfl ?_
    refine wl_nil (wx_then (wc_ret ?_))
    simp only [Option.some.injEq] at h
    obtain rfl := h
    exact wx_pf tt_ok (.inl rfl) Tryd.results96 (Res.tmp rfl Res.nil) rfl
  replace h := cf hc h
  refine wl_skip rfl rfl ?_
  refine wl_skip rfl rfl ?_
  refine wl_skip rfl rfl ?_
  simp only [Option.some.injEq, Prod.mk.injEq] at h
  obtain rfl := h
  have h := hg10; clear hg10
  refine wl_pure (v := .bool false) tt_ok rfl rfl ?_
  refine wl_pure tt_ok rfl rfl ?_
  replace h := bsome h; obtain ⟨v15, h, hg15⟩ := h
  replace h := cf rfl h
  refine wl_skip rfl rfl ?_
  refine wl_skip rfl rfl ?_
  refine wl_skip rfl rfl ?_
  simp only [Option.some.injEq, Prod.mk.injEq] at h
  obtain rfl := h
  have h := hg15; clear hg15
  refine wl_pure (v := .bool false) tt_ok rfl rfl ?_
  refine wl_pure tt_ok rfl rfl ?_
  replace h := bsome h; obtain ⟨v20, h, hg20⟩ := h
  replace h := cf rfl h
  refine wl_skip rfl rfl ?_
  refine wl_skip rfl rfl ?_
  refine wl_skip rfl rfl ?_
  simp only [Option.some.injEq, Prod.mk.injEq] at h
  obtain rfl := h
  have h := hg20; clear hg20
  refine wl_pure (v := .bool false) tt_ok rfl rfl ?_
  refine wl_pure tt_ok rfl rfl ?_
  replace h := bsome h; obtain ⟨v25, h, hg25⟩ := h
  replace h := cf rfl h
  refine wl_skip rfl rfl ?_
  refine wl_skip rfl rfl ?_
  refine wl_skip rfl rfl ?_
  simp only [Option.some.injEq, Prod.mk.injEq] at h
  obtain rfl := h
  have h := hg25; clear hg25
  refine wl_pure (v := .bool false) tt_ok rfl rfl ?_
  refine wl_pure tt_ok rfl rfl ?_
  replace h := bsome h; obtain ⟨v30, h, hg30⟩ := h
  replace h := cf rfl h
  refine wl_skip rfl rfl ?_
  refine wl_skip rfl rfl ?_
  refine wl_skip rfl rfl ?_
  simp only [Option.some.injEq, Prod.mk.injEq] at h
  obtain rfl := h
  have h := hg30; clear hg30
  refine wl_pure (v := .bool false) tt_ok rfl rfl ?_
  refine wl_pure tt_ok rfl rfl ?_
  replace h := bsome h; obtain ⟨v35, h, hg35⟩ := h
  replace h := cf rfl h
  refine wl_skip rfl rfl ?_
  refine wl_skip rfl rfl ?_
  refine wl_skip rfl rfl ?_
  simp only [Option.some.injEq, Prod.mk.injEq] at h
  obtain rfl := h
  have h := hg35; clear hg35
  refine wl_pure (v := .bool false) tt_ok rfl rfl ?_
  refine wl_pure tt_ok rfl rfl ?_
  replace h := bsome h; obtain ⟨v40, h, hg40⟩ := h
  replace h := cf rfl h
  refine wl_skip rfl rfl ?_
  refine wl_skip rfl rfl ?_
  refine wl_skip rfl rfl ?_
  simp only [Option.some.injEq, Prod.mk.injEq] at h
  obtain rfl := h
  have h := hg40; clear hg40
  refine wl_pure (v := .bool false) tt_ok rfl rfl ?_
  refine wl_pure tt_ok rfl rfl ?_
  refine wl_nil (wx_then (wc_ret ?_))
  simp only [Option.some.injEq] at h
  obtain rfl := h
  exact wx_pf tt_ok (.inl rfl) Tryd.results96 (Res.tmp rfl Res.nil) rfl

theorem k_hindcastref08_Shot {F : Nat} {p0 : T_api_Shot} {r0 : Bool} (h : m_hindcastref08_Shot F p0 = some r0) :
    Pf Tryd.prog 97 [.agg #[.int .i32 p0.X, .int .i32 p0.Y, .int .i32 p0.VX, .int .i32 p0.VY, .int .u8 p0.Owner, .int .u8 p0.Life]] (fun w => True) (.bool r0) := by
  unfold m_hindcastref08_Shot at h
  refine pf_of_wc Tryd.func97 rfl Tryd.ntmps97 rfl rfl (fun w0 hR => ?_)
  refine wc_seq (wc_region ?_)
  refine wl_box rfl rfl rfl (fun b1 => ?_)
  refine wl_pure tt_ok rfl rfl ?_
  refine wl_nil (wx_then (wc_seq (wc_region ?_)))
  refine wl_pure (v := .pointer (some ⟨b1, 0, none⟩)) tt_ok rfl rfl ?_
  refine wl_val (v := .int .i32 p0.X) (val_load tt_ok rfl (List.Mem.head _) rfl) rfl ?_
  replace h := bsome h; obtain ⟨v5, x5, h⟩ := h
  refine wl_cq Tryd.call99 rfl rfl rfl (q_pf (k_hindcastref08_in x5) (fun _ _ => trivial)) rfl ?_
  refine wl_pure tt_ok rfl rfl ?_
  replace h := bsome h; obtain ⟨v10, h, hg10⟩ := h
  refine wl_split (t := 6) rfl (fun hc => ?_) (fun hc => ?_)
  · replace h := ct hc h
    refine wl_run rfl ?_
    refine wl_pure (v := .pointer (some ⟨b1, 1, none⟩)) tt_ok rfl rfl ?_
    refine wl_run rfl ?_
    refine wl_val (v := .int .i32 p0.Y) (val_load tt_ok rfl (List.Mem.head _) rfl) rfl ?_
    replace h := bsome h; obtain ⟨v9, x9, h⟩ := h
    refine wl_run rfl ?_
    refine wl_cq Tryd.call99 rfl rfl rfl (q_pf (k_hindcastref08_in x9) (fun _ _ => trivial)) rfl ?_
    simp only [Option.some.injEq, Prod.mk.injEq] at h
    obtain rfl := h
    have h := hg10; clear hg10
    refine wl_pure (v := .bool v9) tt_ok rfl rfl ?_
    refine wl_pure tt_ok rfl rfl ?_
    replace h := bsome h; obtain ⟨v15, h, hg15⟩ := h
    refine wl_split (t := 11) rfl (fun hc => ?_) (fun hc => ?_)
    · replace h := ct hc h
      refine wl_run rfl ?_
      refine wl_pure (v := .pointer (some ⟨b1, 2, none⟩)) tt_ok rfl rfl ?_
      refine wl_run rfl ?_
      refine wl_val (v := .int .i32 p0.VX) (val_load tt_ok rfl (List.Mem.head _) rfl) rfl ?_
      replace h := bsome h; obtain ⟨v14, x14, h⟩ := h
      refine wl_run rfl ?_
      refine wl_cq Tryd.call99 rfl rfl rfl (q_pf (k_hindcastref08_in x14) (fun _ _ => trivial)) rfl ?_
      simp only [Option.some.injEq, Prod.mk.injEq] at h
      obtain rfl := h
      have h := hg15; clear hg15
      refine wl_pure (v := .bool v14) tt_ok rfl rfl ?_
      refine wl_pure tt_ok rfl rfl ?_
      replace h := bsome h; obtain ⟨v20, h, hg20⟩ := h
      refine wl_split (t := 16) rfl (fun hc => ?_) (fun hc => ?_)
      · replace h := ct hc h
        refine wl_run rfl ?_
        refine wl_pure (v := .pointer (some ⟨b1, 3, none⟩)) tt_ok rfl rfl ?_
        refine wl_run rfl ?_
        refine wl_val (v := .int .i32 p0.VY) (val_load tt_ok rfl (List.Mem.head _) rfl) rfl ?_
        replace h := bsome h; obtain ⟨v19, x19, h⟩ := h
        refine wl_run rfl ?_
        refine wl_cq Tryd.call99 rfl rfl rfl (q_pf (k_hindcastref08_in x19) (fun _ _ => trivial)) rfl ?_
        simp only [Option.some.injEq, Prod.mk.injEq] at h
        obtain rfl := h
        have h := hg20; clear hg20
        refine wl_pure (v := .bool v19) tt_ok rfl rfl ?_
        refine wl_pure tt_ok rfl rfl ?_
        replace h := bsome h; obtain ⟨v25, h, hg25⟩ := h
        refine wl_split (t := 21) rfl (fun hc => ?_) (fun hc => ?_)
        · replace h := ct hc h
          refine wl_run rfl ?_
          refine wl_pure (v := .pointer (some ⟨b1, 4, none⟩)) tt_ok rfl rfl ?_
          refine wl_run rfl ?_
          refine wl_val (v := .int .u8 p0.Owner) (val_load tt_ok rfl (List.Mem.head _) rfl) rfl ?_
          refine wl_run rfl ?_
          refine wl_pure (v := .bool (decide (p0.Owner ≤ (1 : Int)))) tt_ok rfl rfl ?_
          simp only [Option.some.injEq, Prod.mk.injEq] at h
          obtain rfl := h
          have h := hg25; clear hg25
          refine wl_pure (v := .bool (decide (p0.Owner ≤ (1 : Int)))) tt_ok rfl rfl ?_
          refine wl_pure tt_ok rfl rfl ?_
          replace h := bsome h; obtain ⟨v30, h, hg30⟩ := h
          refine wl_split (t := 26) rfl (fun hc => ?_) (fun hc => ?_)
          · replace h := ct hc h
            refine wl_run rfl ?_
            refine wl_pure (v := .pointer (some ⟨b1, 5, none⟩)) tt_ok rfl rfl ?_
            refine wl_run rfl ?_
            refine wl_val (v := .int .u8 p0.Life) (val_load tt_ok rfl (List.Mem.head _) rfl) rfl ?_
            refine wl_run rfl ?_
            refine wl_pure (v := .bool (decide ((1 : Int) ≤ p0.Life))) tt_ok rfl rfl ?_
            simp only [Option.some.injEq, Prod.mk.injEq] at h
            obtain rfl := h
            have h := hg30; clear hg30
            refine wl_pure (v := .bool (decide ((1 : Int) ≤ p0.Life))) tt_ok rfl rfl ?_
            refine wl_pure tt_ok rfl rfl ?_
            replace h := bsome h; obtain ⟨v35, h, hg35⟩ := h
            refine wl_split (t := 31) rfl (fun hc => ?_) (fun hc => ?_)
            · replace h := ct hc h
              refine wl_run rfl ?_
              refine wl_pure (v := .pointer (some ⟨b1, 5, none⟩)) tt_ok rfl rfl ?_
              refine wl_run rfl ?_
              refine wl_val (v := .int .u8 p0.Life) (val_load tt_ok rfl (List.Mem.head _) rfl) rfl ?_
              refine wl_run rfl ?_
              refine wl_pure (v := .bool (decide (p0.Life ≤ (40 : Int)))) tt_ok rfl rfl ?_
              simp only [Option.some.injEq, Prod.mk.injEq] at h
              obtain rfl := h
              have h := hg35; clear hg35
              refine wl_pure (v := .bool (decide (p0.Life ≤ (40 : Int)))) tt_ok rfl rfl ?_
              refine wl_pure tt_ok rfl rfl ?_
              refine wl_nil (wx_then (wc_ret ?_))
              simp only [Option.some.injEq] at h
              obtain rfl := h
              exact wx_pf tt_ok (.inl rfl) Tryd.results97 (Res.tmp rfl Res.nil) rfl
            replace h := cf hc h
            refine wl_skip rfl rfl ?_
            refine wl_skip rfl rfl ?_
            refine wl_skip rfl rfl ?_
            simp only [Option.some.injEq, Prod.mk.injEq] at h
            obtain rfl := h
            have h := hg35; clear hg35
            refine wl_pure (v := .bool false) tt_ok rfl rfl ?_
            refine wl_pure tt_ok rfl rfl ?_
            refine wl_nil (wx_then (wc_ret ?_))
            simp only [Option.some.injEq] at h
            obtain rfl := h
            exact wx_pf tt_ok (.inl rfl) Tryd.results97 (Res.tmp rfl Res.nil) rfl
          replace h := cf hc h
          refine wl_skip rfl rfl ?_
          refine wl_skip rfl rfl ?_
          refine wl_skip rfl rfl ?_
          simp only [Option.some.injEq, Prod.mk.injEq] at h
          obtain rfl := h
          have h := hg30; clear hg30
          refine wl_pure (v := .bool false) tt_ok rfl rfl ?_
          refine wl_pure tt_ok rfl rfl ?_
          replace h := bsome h; obtain ⟨v35, h, hg35⟩ := h
          replace h := cf rfl h
          refine wl_skip rfl rfl ?_
          refine wl_skip rfl rfl ?_
          refine wl_skip rfl rfl ?_
          simp only [Option.some.injEq, Prod.mk.injEq] at h
          obtain rfl := h
          have h := hg35; clear hg35
          refine wl_pure (v := .bool false) tt_ok rfl rfl ?_
          refine wl_pure tt_ok rfl rfl ?_
          refine wl_nil (wx_then (wc_ret ?_))
          simp only [Option.some.injEq] at h
          obtain rfl := h
          exact wx_pf tt_ok (.inl rfl) Tryd.results97 (Res.tmp rfl Res.nil) rfl
        replace h := cf hc h
        refine wl_skip rfl rfl ?_
        refine wl_skip rfl rfl ?_
        refine wl_skip rfl rfl ?_
        simp only [Option.some.injEq, Prod.mk.injEq] at h
        obtain rfl := h
        have h := hg25; clear hg25
        refine wl_pure (v := .bool false) tt_ok rfl rfl ?_
        refine wl_pure tt_ok rfl rfl ?_
        replace h := bsome h; obtain ⟨v30, h, hg30⟩ := h
        replace h := cf rfl h
        refine wl_skip rfl rfl ?_
        refine wl_skip rfl rfl ?_
        refine wl_skip rfl rfl ?_
        simp only [Option.some.injEq, Prod.mk.injEq] at h
        obtain rfl := h
        have h := hg30; clear hg30
        refine wl_pure (v := .bool false) tt_ok rfl rfl ?_
        refine wl_pure tt_ok rfl rfl ?_
        replace h := bsome h; obtain ⟨v35, h, hg35⟩ := h
        replace h := cf rfl h
        refine wl_skip rfl rfl ?_
        refine wl_skip rfl rfl ?_
        refine wl_skip rfl rfl ?_
        simp only [Option.some.injEq, Prod.mk.injEq] at h
        obtain rfl := h
        have h := hg35; clear hg35
        refine wl_pure (v := .bool false) tt_ok rfl rfl ?_
        refine wl_pure tt_ok rfl rfl ?_
        refine wl_nil (wx_then (wc_ret ?_))
        simp only [Option.some.injEq] at h
        obtain rfl := h
        exact wx_pf tt_ok (.inl rfl) Tryd.results97 (Res.tmp rfl Res.nil) rfl
      replace h := cf hc h
      refine wl_skip rfl rfl ?_
      refine wl_skip rfl rfl ?_
      refine wl_skip rfl rfl ?_
      simp only [Option.some.injEq, Prod.mk.injEq] at h
      obtain rfl := h
      have h := hg20; clear hg20
      refine wl_pure (v := .bool false) tt_ok rfl rfl ?_
      refine wl_pure tt_ok rfl rfl ?_
      replace h := bsome h; obtain ⟨v25, h, hg25⟩ := h
      replace h := cf rfl h
      refine wl_skip rfl rfl ?_
      refine wl_skip rfl rfl ?_
      refine wl_skip rfl rfl ?_
      simp only [Option.some.injEq, Prod.mk.injEq] at h
      obtain rfl := h
      have h := hg25; clear hg25
      refine wl_pure (v := .bool false) tt_ok rfl rfl ?_
      refine wl_pure tt_ok rfl rfl ?_
      replace h := bsome h; obtain ⟨v30, h, hg30⟩ := h
      replace h := cf rfl h
      refine wl_skip rfl rfl ?_
      refine wl_skip rfl rfl ?_
      refine wl_skip rfl rfl ?_
      simp only [Option.some.injEq, Prod.mk.injEq] at h
      obtain rfl := h
      have h := hg30; clear hg30
      refine wl_pure (v := .bool false) tt_ok rfl rfl ?_
      refine wl_pure tt_ok rfl rfl ?_
      replace h := bsome h; obtain ⟨v35, h, hg35⟩ := h
      replace h := cf rfl h
      refine wl_skip rfl rfl ?_
      refine wl_skip rfl rfl ?_
      refine wl_skip rfl rfl ?_
      simp only [Option.some.injEq, Prod.mk.injEq] at h
      obtain rfl := h
      have h := hg35; clear hg35
      refine wl_pure (v := .bool false) tt_ok rfl rfl ?_
      refine wl_pure tt_ok rfl rfl ?_
      refine wl_nil (wx_then (wc_ret ?_))
      simp only [Option.some.injEq] at h
      obtain rfl := h
      exact wx_pf tt_ok (.inl rfl) Tryd.results97 (Res.tmp rfl Res.nil) rfl
    replace h := cf hc h
    refine wl_skip rfl rfl ?_
    refine wl_skip rfl rfl ?_
    refine wl_skip rfl rfl ?_
    simp only [Option.some.injEq, Prod.mk.injEq] at h
    obtain rfl := h
    have h := hg15; clear hg15
    refine wl_pure (v := .bool false) tt_ok rfl rfl ?_
    refine wl_pure tt_ok rfl rfl ?_
    replace h := bsome h; obtain ⟨v20, h, hg20⟩ := h
    replace h := cf rfl h
    refine wl_skip rfl rfl ?_
    refine wl_skip rfl rfl ?_
    refine wl_skip rfl rfl ?_
    simp only [Option.some.injEq, Prod.mk.injEq] at h
    obtain rfl := h
    have h := hg20; clear hg20
    refine wl_pure (v := .bool false) tt_ok rfl rfl ?_
    refine wl_pure tt_ok rfl rfl ?_
    replace h := bsome h; obtain ⟨v25, h, hg25⟩ := h
    replace h := cf rfl h
    refine wl_skip rfl rfl ?_
    refine wl_skip rfl rfl ?_
    refine wl_skip rfl rfl ?_
    simp only [Option.some.injEq, Prod.mk.injEq] at h
    obtain rfl := h
    have h := hg25; clear hg25
    refine wl_pure (v := .bool false) tt_ok rfl rfl ?_
    refine wl_pure tt_ok rfl rfl ?_
    replace h := bsome h; obtain ⟨v30, h, hg30⟩ := h
    replace h := cf rfl h
    refine wl_skip rfl rfl ?_
    refine wl_skip rfl rfl ?_
    refine wl_skip rfl rfl ?_
    simp only [Option.some.injEq, Prod.mk.injEq] at h
    obtain rfl := h
    have h := hg30; clear hg30
    refine wl_pure (v := .bool false) tt_ok rfl rfl ?_
    refine wl_pure tt_ok rfl rfl ?_
    replace h := bsome h; obtain ⟨v35, h, hg35⟩ := h
    replace h := cf rfl h
    refine wl_skip rfl rfl ?_
    refine wl_skip rfl rfl ?_
    refine wl_skip rfl rfl ?_
    simp only [Option.some.injEq, Prod.mk.injEq] at h
    obtain rfl := h
    have h := hg35; clear hg35
    refine wl_pure (v := .bool false) tt_ok rfl rfl ?_
    refine wl_pure tt_ok rfl rfl ?_
    refine wl_nil (wx_then (wc_ret ?_))
    simp only [Option.some.injEq] at h
    obtain rfl := h
    exact wx_pf tt_ok (.inl rfl) Tryd.results97 (Res.tmp rfl Res.nil) rfl
  replace h := cf hc h
  refine wl_skip rfl rfl ?_
  refine wl_skip rfl rfl ?_
  refine wl_skip rfl rfl ?_
  simp only [Option.some.injEq, Prod.mk.injEq] at h
  obtain rfl := h
  have h := hg10; clear hg10
  refine wl_pure (v := .bool false) tt_ok rfl rfl ?_
  refine wl_pure tt_ok rfl rfl ?_
  replace h := bsome h; obtain ⟨v15, h, hg15⟩ := h
  replace h := cf rfl h
  refine wl_skip rfl rfl ?_
  refine wl_skip rfl rfl ?_
  refine wl_skip rfl rfl ?_
  simp only [Option.some.injEq, Prod.mk.injEq] at h
  obtain rfl := h
  have h := hg15; clear hg15
  refine wl_pure (v := .bool false) tt_ok rfl rfl ?_
  refine wl_pure tt_ok rfl rfl ?_
  replace h := bsome h; obtain ⟨v20, h, hg20⟩ := h
  replace h := cf rfl h
  refine wl_skip rfl rfl ?_
  refine wl_skip rfl rfl ?_
  refine wl_skip rfl rfl ?_
  simp only [Option.some.injEq, Prod.mk.injEq] at h
  obtain rfl := h
  have h := hg20; clear hg20
  refine wl_pure (v := .bool false) tt_ok rfl rfl ?_
  refine wl_pure tt_ok rfl rfl ?_
  replace h := bsome h; obtain ⟨v25, h, hg25⟩ := h
  replace h := cf rfl h
  refine wl_skip rfl rfl ?_
  refine wl_skip rfl rfl ?_
  refine wl_skip rfl rfl ?_
  simp only [Option.some.injEq, Prod.mk.injEq] at h
  obtain rfl := h
  have h := hg25; clear hg25
  refine wl_pure (v := .bool false) tt_ok rfl rfl ?_
  refine wl_pure tt_ok rfl rfl ?_
  replace h := bsome h; obtain ⟨v30, h, hg30⟩ := h
  replace h := cf rfl h
  refine wl_skip rfl rfl ?_
  refine wl_skip rfl rfl ?_
  refine wl_skip rfl rfl ?_
  simp only [Option.some.injEq, Prod.mk.injEq] at h
  obtain rfl := h
  have h := hg30; clear hg30
  refine wl_pure (v := .bool false) tt_ok rfl rfl ?_
  refine wl_pure tt_ok rfl rfl ?_
  replace h := bsome h; obtain ⟨v35, h, hg35⟩ := h
  replace h := cf rfl h
  refine wl_skip rfl rfl ?_
  refine wl_skip rfl rfl ?_
  refine wl_skip rfl rfl ?_
  simp only [Option.some.injEq, Prod.mk.injEq] at h
  obtain rfl := h
  have h := hg35; clear hg35
  refine wl_pure (v := .bool false) tt_ok rfl rfl ?_
  refine wl_pure tt_ok rfl rfl ?_
  refine wl_nil (wx_then (wc_ret ?_))
  simp only [Option.some.injEq] at h
  obtain rfl := h
  exact wx_pf tt_ok (.inl rfl) Tryd.results97 (Res.tmp rfl Res.nil) rfl

theorem k_hindcastref08_Check {F : Nat} {p0 : T_api_State} {p0a0 : Option Addr} {p0n0 p0c0 : Nat} {r0 : Int} (p0N0 : p0n0 = p0.Shots.length) (p0H0 : p0n0 ≤ p0c0) (h : m_hindcastref08_Check F p0 = some r0) :
    Pf Tryd.prog 84 [.agg #[.int .u64 p0.Frame, .int .u64 p0.Seed, .int .i32 p0.Players.1.X, .int .i32 p0.Players.1.Y, .int .i32 p0.Players.1.VX, .int .i32 p0.Players.1.VY, .int .u8 p0.Players.1.Health, .int .u8 p0.Players.1.Cool, .int .u8 p0.Players.1.Face, .int .i32 p0.Players.2.X, .int .i32 p0.Players.2.Y, .int .i32 p0.Players.2.VX, .int .i32 p0.Players.2.VY, .int .u8 p0.Players.2.Health, .int .u8 p0.Players.2.Cool, .int .u8 p0.Players.2.Face, .slice p0a0 p0n0 p0c0, .int .u16 p0.Score.1, .int .u16 p0.Score.2]] (fun w => Rds w [] [] p0a0 (flat c_T_api_Shot p0.Shots)) (.int .i64 r0) := by
  unfold m_hindcastref08_Check at h
  refine pf_of_wc Tryd.func84 rfl Tryd.ntmps84 rfl rfl (fun w0 hR => ?_)
  have p0S0 := hR
  refine wc_seq (wc_region ?_)
  refine wl_box rfl rfl rfl (fun b1 => ?_)
  refine wl_pure tt_ok rfl rfl ?_
  refine wl_nil (wx_then (wc_seq (wc_seq (wc_region ?_))))
  refine wl_pure (v := .pointer (some ⟨b1, 16, none⟩)) tt_ok rfl rfl ?_
  refine wl_val (v := .slice p0a0 p0n0 p0c0) (val_load tt_ok rfl (List.Mem.head _) rfl) rfl ?_
  refine wl_val (v := .int .i64 (p0.Shots.length : Int)) (val_len tt_ok rfl rfl p0N0) rfl ?_
  refine wl_pure (v := .bool (decide ((8 : Int) < (p0.Shots.length : Int)))) tt_ok rfl rfl ?_
  refine wl_pure tt_ok rfl rfl ?_
  replace h := bsome h; obtain ⟨v14, h, hg14⟩ := h
  refine wl_split (t := 8) rfl (fun hc => ?_) (fun hc => ?_)
  · replace h := ct hc h
    refine wl_skip rfl rfl ?_
    refine wl_skip rfl rfl ?_
    refine wl_skip rfl rfl ?_
    refine wl_skip rfl rfl ?_
    refine wl_skip rfl rfl ?_
    simp only [Option.some.injEq, Prod.mk.injEq] at h
    obtain rfl := h
    have h := hg14; clear hg14
    refine wl_pure (v := .bool true) tt_ok rfl rfl ?_
    refine wl_pure tt_ok rfl rfl ?_
    replace h := bsome h; obtain ⟨v21, h, hg21⟩ := h
    replace h := ct rfl h
    refine wl_skip rfl rfl ?_
    refine wl_skip rfl rfl ?_
    refine wl_skip rfl rfl ?_
    refine wl_skip rfl rfl ?_
    refine wl_skip rfl rfl ?_
    simp only [Option.some.injEq, Prod.mk.injEq] at h
    obtain rfl := h
    have h := hg21; clear hg21
    refine wl_pure (v := .bool true) tt_ok rfl rfl ?_
    refine wl_nil (wx_then ?_)
    replace h := ct rfl h
    refine wc_cond_true rfl ?_
    refine wc_seq (wc_region ?_)
    refine wl_pure tt_ok rfl rfl ?_
    refine wl_nil (wx_then (wc_ret (wx_then_ret ?_)))
    simp only [Option.some.injEq] at h
    obtain rfl := h
    exact wx_pf tt_ok (.inl rfl) Tryd.results84 (Res.tmp rfl Res.nil) rfl
  replace h := cf hc h
  refine wl_run rfl ?_
  refine wl_pure (v := .pointer (some ⟨b1, 2, none⟩)) tt_ok rfl rfl ?_
  refine wl_run rfl ?_
  refine wl_val (v := .pointer (some ⟨b1, 2, none⟩)) (val_ia (j := 0) tt_ok rfl rfl rfl rfl rfl rfl rfl) rfl ?_
  refine wl_run rfl ?_
  refine wl_val (v := .agg #[.int .i32 p0.Players.1.X, .int .i32 p0.Players.1.Y, .int .i32 p0.Players.1.VX, .int .i32 p0.Players.1.VY, .int .u8 p0.Players.1.Health, .int .u8 p0.Players.1.Cool, .int .u8 p0.Players.1.Face]) (val_load tt_ok rfl (List.Mem.head _) rfl) rfl ?_
  replace h := bsome h; obtain ⟨v12, x12, h⟩ := h
  refine wl_run rfl ?_
  refine wl_cq Tryd.call96 rfl rfl rfl (q_pf (k_hindcastref08_Player x12) (fun _ _ => trivial)) rfl ?_
  refine wl_run rfl ?_
  refine wl_pure (v := .bool (!v12)) tt_ok rfl rfl ?_
  simp only [Option.some.injEq, Prod.mk.injEq] at h
  obtain rfl := h
  have h := hg14; clear hg14
  refine wl_pure (v := .bool (!v12)) tt_ok rfl rfl ?_
  refine wl_pure tt_ok rfl rfl ?_
  replace h := bsome h; obtain ⟨v21, h, hg21⟩ := h
  refine wl_split (t := 15) rfl (fun hc => ?_) (fun hc => ?_)
  · replace h := ct hc h
    refine wl_skip rfl rfl ?_
    refine wl_skip rfl rfl ?_
    refine wl_skip rfl rfl ?_
    refine wl_skip rfl rfl ?_
    refine wl_skip rfl rfl ?_
    simp only [Option.some.injEq, Prod.mk.injEq] at h
    obtain rfl := h
    have h := hg21; clear hg21
    refine wl_pure (v := .bool true) tt_ok rfl rfl ?_
    refine wl_nil (wx_then ?_)
    replace h := ct rfl h
    refine wc_cond_true rfl ?_
    refine wc_seq (wc_region ?_)
    refine wl_pure tt_ok rfl rfl ?_
    refine wl_nil (wx_then (wc_ret (wx_then_ret ?_)))
    simp only [Option.some.injEq] at h
    obtain rfl := h
    exact wx_pf tt_ok (.inl rfl) Tryd.results84 (Res.tmp rfl Res.nil) rfl
  replace h := cf hc h
  refine wl_run rfl ?_
  refine wl_pure (v := .pointer (some ⟨b1, 2, none⟩)) tt_ok rfl rfl ?_
  refine wl_run rfl ?_
  refine wl_val (v := .pointer (some ⟨b1, 9, none⟩)) (val_ia (j := 1) tt_ok rfl rfl rfl rfl rfl rfl rfl) rfl ?_
  refine wl_run rfl ?_
  refine wl_val (v := .agg #[.int .i32 p0.Players.2.X, .int .i32 p0.Players.2.Y, .int .i32 p0.Players.2.VX, .int .i32 p0.Players.2.VY, .int .u8 p0.Players.2.Health, .int .u8 p0.Players.2.Cool, .int .u8 p0.Players.2.Face]) (val_load tt_ok rfl (List.Mem.head _) rfl) rfl ?_
  replace h := bsome h; obtain ⟨v19, x19, h⟩ := h
  refine wl_run rfl ?_
  refine wl_cq Tryd.call96 rfl rfl rfl (q_pf (k_hindcastref08_Player x19) (fun _ _ => trivial)) rfl ?_
  refine wl_run rfl ?_
  refine wl_pure (v := .bool (!v19)) tt_ok rfl rfl ?_
  simp only [Option.some.injEq, Prod.mk.injEq] at h
  obtain rfl := h
  have h := hg21; clear hg21
  refine wl_pure (v := .bool (!v19)) tt_ok rfl rfl ?_
  refine wl_nil (wx_then ?_)
  refine wc_cond rfl (fun hc => ?_) (fun hc => ?_)
  · replace h := ct hc h
    refine wc_seq (wc_region ?_)
    refine wl_pure tt_ok rfl rfl ?_
    refine wl_nil (wx_then (wc_ret (wx_then_ret ?_)))
    simp only [Option.some.injEq] at h
    obtain rfl := h
    exact wx_pf tt_ok (.inl rfl) Tryd.results84 (Res.tmp rfl Res.nil) rfl
  replace h := cf hc h
  refine wc_skip (wx_then (wc_seq (wc_seq (wc_region ?_))))
  refine wl_pure tt_ok rfl rfl ?_
  refine wl_nil (wx_then (wc_block ?_))
  replace h := bsome h; obtain ⟨o15, h, hl15⟩ := h
  refine wc_loop (fun m E L => ∃ (j15_3 : Int), m_hindcastref08_Check_L14 F p0 m j15_3 = some o15 ∧ E = [(1, .pointer (some ⟨b1, 0, none⟩)), (2, .int .i64 (0 : Int)), (3, .int .i64 j15_3)] ∧ L = (⟨b1, [.int .u64 p0.Frame, .int .u64 p0.Seed, .int .i32 p0.Players.1.X, .int .i32 p0.Players.1.Y, .int .i32 p0.Players.1.VX, .int .i32 p0.Players.1.VY, .int .u8 p0.Players.1.Health, .int .u8 p0.Players.1.Cool, .int .u8 p0.Players.1.Face, .int .i32 p0.Players.2.X, .int .i32 p0.Players.2.Y, .int .i32 p0.Players.2.VX, .int .i32 p0.Players.2.VY, .int .u8 p0.Players.2.Health, .int .u8 p0.Players.2.Cool, .int .u8 p0.Players.2.Face, .slice p0a0 p0n0 p0c0, .int .u16 p0.Score.1, .int .u16 p0.Score.2], 41, (0, 0)⟩ :: [])) F ⟨(0 : Int), h, rfl, rfl⟩ (agree_cons rfl (agree_cons rfl (agree_cons rfl agree_nil))) (pSub (pCons Sel.hc pNil)) ?_
  clear h
  rintro m15 _ _ ⟨j15_3, h, rfl, rfl⟩
  rcases m15 with _ | m15
  · rw [m_hindcastref08_Check_L14.eq_1] at h; cases h
  rw [m_hindcastref08_Check_L14.eq_2] at h
  refine wc_seq (wc_seq (wc_region ?_))
  refine wl_pure tt_ok rfl rfl ?_
  refine wl_pure (v := .pointer (some ⟨b1, 16, none⟩)) tt_ok rfl rfl ?_
  refine wl_val (v := .slice p0a0 p0n0 p0c0) (val_load tt_ok rfl (List.Mem.head _) rfl) rfl ?_
  refine wl_val (v := .int .i64 (p0.Shots.length : Int)) (val_len tt_ok rfl rfl p0N0) rfl ?_
  refine wl_pure (v := .bool (decide (j15_3 < (p0.Shots.length : Int)))) tt_ok rfl rfl ?_
  refine wl_nil (wx_then ?_)
  refine wc_cond rfl (fun hc => ?_) (fun hc => ?_)
  · replace h := ct hc h
    refine wc_skip (wx_then (wc_seq (wc_block (wc_seq (wc_region ?_)))))
    refine wl_pure (v := .pointer (some ⟨b1, 16, none⟩)) tt_ok rfl rfl ?_
    refine wl_val (v := .slice p0a0 p0n0 p0c0) (val_load tt_ok rfl (List.Mem.head _) rfl) rfl ?_
    refine wl_pure tt_ok rfl rfl ?_
    replace h := bsome h; obtain ⟨v32, x32, h⟩ := h
    refine wl_val (v := .pointer (some ((adOf p0a0).add (j15_3.toNat * 6 + 0)))) (val_ix (enc := c_T_api_Shot) tt_ok rfl rfl rfl rfl p0N0 p0S0 c_T_api_Shot_len rfl x32) rfl ?_
    refine wl_val (v := .agg #[.int .i32 v32.X, .int .i32 v32.Y, .int .i32 v32.VX, .int .i32 v32.VY, .int .u8 v32.Owner, .int .u8 v32.Life]) (val_le (enc := c_T_api_Shot) (xs := p0.Shots) tt_ok rfl p0S0 rsub_nil c_T_api_Shot_len x32 rfl) rfl ?_
    replace h := bsome h; obtain ⟨v34, x34, h⟩ := h
    refine wl_cq Tryd.call97 rfl rfl rfl (q_pf (k_hindcastref08_Shot x34) (fun _ _ => trivial)) rfl ?_
    refine wl_pure (v := .bool (!v34)) tt_ok rfl rfl ?_
    refine wl_nil (wx_then ?_)
    refine wc_cond rfl (fun hc => ?_) (fun hc => ?_)
    · replace h := ct hc h
      refine wc_seq (wc_region ?_)
      refine wl_pure tt_ok rfl rfl ?_
      refine wl_nil (wx_then (wc_ret (wx_block_ret (wx_then_ret ?_))))
      obtain rfl := Option.some.inj h
      have h := hl15; clear hl15; try dsimp only [orE_l, orE_r] at h
      refine wx_then_ret (wx_block_ret (wx_then_ret ?_))
      simp only [Option.some.injEq] at h
      obtain rfl := h
      exact wx_pf tt_ok (.inl rfl) Tryd.results84 (Res.tmp rfl Res.nil) rfl
    replace h := cf hc h
    refine wc_skip (wx_block (wx_then (wc_region ?_)))
    refine wl_pure tt_ok rfl rfl ?_
    refine wl_pure (v := .int .i64 (IntKind.wrap .i64 (j15_3 + (1 : Int)))) tt_ok rfl rfl ?_
    refine wl_pure tt_ok rfl rfl ?_
    refine wl_nil ?_
    exact wx_round m15 (Nat.lt_succ_self m15) ⟨(IntKind.wrap .i64 (j15_3 + (1 : Int))), h, rfl, rfl⟩ (agree_cons rfl (agree_cons rfl (agree_cons rfl agree_nil))) (pSub (pCons Sel.hc pNil))
  replace h := cf hc h
  refine wc_exit (wx_then_exit ?_)
  obtain rfl := Option.some.inj h
  have h := hl15; clear hl15; try dsimp only [orE_l, orE_r] at h
  refine wx_then_exit (wx_block_exit (wx_then (wc_seq (wc_region ?_))))
  refine wl_pure tt_ok rfl rfl ?_
  refine wl_nil (wx_then (wc_ret ?_))
  simp only [Option.some.injEq] at h
  obtain rfl := h
  exact wx_pf tt_ok (.inl rfl) Tryd.results84 (Res.tmp rfl Res.nil) rfl

theorem k_hindcastref02_Number {F : Nat} {p0 : Int} {p1 : Int} {r0 : (List UInt8)} (h : m_hindcastref02_Number F p0 p1 = some r0) :
    Pf Tryd.prog 85 [.int .u64 p0, .int .i64 p1] (fun w => True) (.string ⟨r0.toArray⟩) := by
  unfold m_hindcastref02_Number at h
  refine pf_of_wc Tryd.func85 rfl Tryd.ntmps85 rfl rfl (fun w0 hR => ?_)
  refine wc_seq (wc_region ?_)
  refine wl_pure tt_ok rfl rfl ?_
  refine wl_nil (wx_then (wc_seq (wc_region ?_)))
  refine wl_pure tt_ok rfl rfl ?_
  refine wl_nil (wx_then (wc_seq (wc_seq (wc_region ?_))))
  refine wl_pure tt_ok rfl rfl ?_
  refine wl_nil (wx_then (wc_block ?_))
  replace h := bsome h; obtain ⟨l9_5, h, hl9⟩ := h
  refine wc_loop (fun m E L => ∃ (j9_0 : Int) (j9_5 : (List Int)) (j9_6 : Int) (j9_5a0 : Option Addr) (j9_5n0 : Nat) (j9_5c0 : Nat) (j9_5B0 : List Blk), m_hindcastref02_Number_L8 F p1 m j9_0 j9_5 j9_6 = some l9_5 ∧ j9_5n0 = j9_5.length ∧ Own 5 1 j9_5a0 j9_5n0 j9_5c0 (flat (e1 .u8) j9_5) j9_5B0 ∧ E = [(0, .int .u64 j9_0), (1, .int .i64 p1), (4, .string ⟨([] : List UInt8).toArray⟩), (5, .slice j9_5a0 j9_5n0 j9_5c0), (6, .int .i64 j9_6)] ∧ L = (j9_5B0 ++ [])) F ⟨p0, ([] : List Int), (0 : Int), none, 0, 0, [], h, rfl, Own.zero, rfl, rfl⟩ (agree_cons rfl (agree_cons rfl (agree_cons rfl (agree_cons rfl (agree_cons rfl agree_nil))))) (pSub (pNo pNil)) ?_
  clear h
  rintro m9 _ _ ⟨j9_0, j9_5, j9_6, j9_5a0, j9_5n0, j9_5c0, j9_5B0, h, j9_5N0, j9_5V0, rfl, rfl⟩
  rcases m9 with _ | m9
  · rw [m_hindcastref02_Number_L8.eq_1] at h; cases h
  rw [m_hindcastref02_Number_L8.eq_2] at h
  refine wc_seq (wc_seq (wc_region ?_))
  iterate 2 refine wl_pure tt_ok rfl rfl ?_
  refine wl_pure (v := .bool (decide (j9_6 < p1))) tt_ok rfl rfl ?_
  refine wl_nil (wx_then ?_)
  refine wc_cond rfl (fun hc => ?_) (fun hc => ?_)
  · replace h := ct hc h
    refine wc_skip (wx_then (wc_seq (wc_block (wc_seq (wc_region ?_)))))
    iterate 2 refine wl_pure tt_ok rfl rfl ?_
    refine wl_pure (v := .int .u64 (Int.tmod j9_0 256)) tt_ok rfl rfl ?_
    refine wl_pure (v := .int .u8 (IntKind.wrap .u8 (Int.tmod j9_0 256))) tt_ok rfl rfl ?_
    refine wl_chg (chg_bsv (enc := (e1 .u8)) (xs := ([(IntKind.wrap .u8 (Int.tmod j9_0 256))] : List Int)) tt_ok rfl rfl rfl rfl rfl rfl rfl rfl (e1_len _)) rfl ?_
    rintro _ _ ⟨a16, n16_, c16, B16, rfl, N16, V16, rfl⟩
    replace h := bsome h; obtain ⟨v17, x17, h⟩ := h
    refine wl_chg (chg_app (enc := (e1 .u8)) (ys := ([(IntKind.wrap .u8 (Int.tmod j9_0 256))] : List Int)) tt_ok rfl rfl rfl rfl rfl rfl j9_5N0 N16 j9_5V0 (Sel.sa Sel.ha) (Rds.of_vec V16) ⟨_, Sel.ha⟩ (e1_len _) (fun _ => rfl) rfl x17) rfl ?_
    rintro _ _ ⟨a17, n17_, c17, B17, rfl, N17, V17, rfl⟩
    refine wl_pure tt_ok rfl rfl ?_
    refine wl_nil (wx_then (wc_region ?_))
    refine wl_pure tt_ok rfl rfl ?_
    refine wl_pure (v := .int .u64 (IntKind.wrap .u64 (Int.tdiv j9_0 256))) tt_ok rfl rfl ?_
    refine wl_pure tt_ok rfl rfl ?_
    refine wl_nil (wx_block (wx_then (wc_region ?_)))
    refine wl_pure tt_ok rfl rfl ?_
    refine wl_pure (v := .int .i64 (IntKind.wrap .i64 (j9_6 + (1 : Int)))) tt_ok rfl rfl ?_
    refine wl_pure tt_ok rfl rfl ?_
    refine wl_nil ?_
    exact wx_round m9 (Nat.lt_succ_self m9) ⟨(IntKind.wrap .u64 (Int.tdiv j9_0 256)), v17, (IntKind.wrap .i64 (j9_6 + (1 : Int))), a17, n17_, c17, B17, h, N17, V17, rfl, rfl⟩ (agree_cons rfl (agree_cons rfl (agree_cons rfl (agree_cons rfl (agree_cons rfl agree_nil))))) (pSub (pApp Sel.ha pNil))
  replace h := cf hc h
  refine wc_exit (wx_then_exit ?_)
  simp only [Option.some.injEq] at h
  obtain rfl := h
  have h := hl9; clear hl9; try dsimp only [orE_l, orE_r] at h
  refine wx_then_exit (wx_block_exit (wx_then (wc_seq (wc_region ?_))))
  refine wl_pure tt_ok rfl rfl ?_
  refine wl_val (v := .string ⟨(toB j9_5).toArray⟩) (val_b2s (xs := j9_5) tt_ok rfl rfl rfl rfl j9_5N0 (Rds.of_vec j9_5V0) ⟨_, Sel.ha⟩) rfl ?_
  refine wl_pure tt_ok rfl rfl ?_
  refine wl_nil (wx_then (wc_ret ?_))
  simp only [Option.some.injEq] at h
  obtain rfl := h
  exact wx_pf tt_ok (.inl rfl) Tryd.results85 (Res.tmp rfl Res.nil) rfl

theorem k_hindcastref08_signed {F : Nat} {p0 : Int} {r0 : (List UInt8)} (h : m_hindcastref08_signed F p0 = some r0) :
    Pf Tryd.prog 86 [.int .i32 p0] (fun w => True) (.string ⟨r0.toArray⟩) := by
  unfold m_hindcastref08_signed at h
  refine pf_of_wc Tryd.func86 rfl Tryd.ntmps86 rfl rfl (fun w0 hR => ?_)
  refine wc_seq (wc_region ?_)
  refine wl_pure tt_ok rfl rfl ?_
  refine wl_nil (wx_then (wc_seq (wc_region ?_)))
  refine wl_pure tt_ok rfl rfl ?_
  refine wl_pure (v := .int .u32 (IntKind.wrap .u32 p0)) tt_ok rfl rfl ?_
  refine wl_pure (v := .int .u64 (IntKind.wrap .u64 (IntKind.wrap .u32 p0))) tt_ok rfl rfl ?_
  replace h := bsome h; obtain ⟨v6, x6, h⟩ := h
  refine wl_cq Tryd.call85 rfl rfl rfl (q_pf (k_hindcastref02_Number x6) (fun _ _ => trivial)) rfl ?_
  refine wl_pure tt_ok rfl rfl ?_
  refine wl_nil (wx_then (wc_ret ?_))
  simp only [Option.some.injEq] at h
  obtain rfl := h
  exact wx_pf tt_ok (.inl rfl) Tryd.results86 (Res.tmp rfl Res.nil) rfl

theorem k_hindcastref02_Var {F : Nat} {p0 : Int} {r0 : (List UInt8)} (h : m_hindcastref02_Var F p0 = some r0) :
    Pf Tryd.prog 87 [.int .u64 p0] (fun w => True) (.string ⟨r0.toArray⟩) := by
  unfold m_hindcastref02_Var at h
  refine pf_of_wc Tryd.func87 rfl Tryd.ntmps87 rfl rfl (fun w0 hR => ?_)
  refine wc_seq (wc_region ?_)
  refine wl_pure tt_ok rfl rfl ?_
  refine wl_nil (wx_then (wc_seq (wc_region ?_)))
  refine wl_pure tt_ok rfl rfl ?_
  refine wl_nil (wx_then (wc_seq (wc_block ?_)))
  replace h := bsome h; obtain ⟨⟨l7_0, l7_3⟩, h, hl7⟩ := h; try dsimp only at hl7
  refine wc_loop (fun m E L => ∃ (j7_0 : Int) (j7_3 : (List Int)) (j7_3a0 : Option Addr) (j7_3n0 : Nat) (j7_3c0 : Nat) (j7_3B0 : List Blk), m_hindcastref02_Var_L6 F m j7_0 j7_3 = some (l7_0, l7_3) ∧ j7_3n0 = j7_3.length ∧ Own 5 1 j7_3a0 j7_3n0 j7_3c0 (flat (e1 .u8) j7_3) j7_3B0 ∧ E = [(0, .int .u64 j7_0), (2, .string ⟨([] : List UInt8).toArray⟩), (3, .slice j7_3a0 j7_3n0 j7_3c0)] ∧ L = (j7_3B0 ++ [])) F ⟨p0, ([] : List Int), none, 0, 0, [], h, rfl, Own.zero, rfl, rfl⟩ (agree_cons rfl (agree_cons rfl (agree_cons rfl agree_nil))) (pSub (pNo pNil)) ?_
  clear h
  rintro m7 _ _ ⟨j7_0, j7_3, j7_3a0, j7_3n0, j7_3c0, j7_3B0, h, j7_3N0, j7_3V0, rfl, rfl⟩
  rcases m7 with _ | m7
  · rw [m_hindcastref02_Var_L6.eq_1] at h; cases h
  rw [m_hindcastref02_Var_L6.eq_2] at h
  refine wc_seq (wc_seq (wc_region ?_))
  refine wl_pure tt_ok rfl rfl ?_
  refine wl_pure (v := .bool (decide ((128 : Int) ≤ j7_0))) tt_ok rfl rfl ?_
  refine wl_nil (wx_then ?_)
  refine wc_cond rfl (fun hc => ?_) (fun hc => ?_)
  · replace h := ct hc h
    refine wc_skip (wx_then (wc_block (wc_seq (wc_region ?_))))
    iterate 2 refine wl_pure tt_ok rfl rfl ?_
    refine wl_pure (v := .int .u64 (Int.tmod j7_0 128)) tt_ok rfl rfl ?_
    refine wl_pure (v := .int .u64 (IntKind.wrap .u64 ((Int.tmod j7_0 128) + (128 : Int)))) tt_ok rfl rfl ?_
    refine wl_pure (v := .int .u8 (IntKind.wrap .u8 (IntKind.wrap .u64 ((Int.tmod j7_0 128) + (128 : Int))))) tt_ok rfl rfl ?_
    refine wl_chg (chg_bsv (enc := (e1 .u8)) (xs := ([(IntKind.wrap .u8 (IntKind.wrap .u64 ((Int.tmod j7_0 128) + (128 : Int))))] : List Int)) tt_ok rfl rfl rfl rfl rfl rfl rfl rfl (e1_len _)) rfl ?_
    rintro _ _ ⟨a11, n11_, c11, B11, rfl, N11, V11, rfl⟩
    replace h := bsome h; obtain ⟨v12, x12, h⟩ := h
    refine wl_chg (chg_app (enc := (e1 .u8)) (ys := ([(IntKind.wrap .u8 (IntKind.wrap .u64 ((Int.tmod j7_0 128) + (128 : Int))))] : List Int)) tt_ok rfl rfl rfl rfl rfl rfl j7_3N0 N11 j7_3V0 (Sel.sa Sel.ha) (Rds.of_vec V11) ⟨_, Sel.ha⟩ (e1_len _) (fun _ => rfl) rfl x12) rfl ?_
    rintro _ _ ⟨a12, n12_, c12, B12, rfl, N12, V12, rfl⟩
    refine wl_pure tt_ok rfl rfl ?_
    refine wl_nil (wx_then (wc_region ?_))
    refine wl_pure tt_ok rfl rfl ?_
    refine wl_pure (v := .int .u64 (IntKind.wrap .u64 (Int.tdiv j7_0 128))) tt_ok rfl rfl ?_
    refine wl_pure tt_ok rfl rfl ?_
    refine wl_nil (wx_block ?_)
    exact wx_round m7 (Nat.lt_succ_self m7) ⟨(IntKind.wrap .u64 (Int.tdiv j7_0 128)), v12, a12, n12_, c12, B12, h, N12, V12, rfl, rfl⟩ (agree_cons rfl (agree_cons rfl (agree_cons rfl agree_nil))) (pSub (pApp Sel.ha pNil))
  replace h := cf hc h
  refine wc_exit (wx_then_exit ?_)
  simp only [Option.some.injEq, Prod.mk.injEq] at h
  obtain ⟨rfl, rfl⟩ := h
  have h := hl7; clear hl7; try dsimp only [orE_l, orE_r] at h
  refine wx_then_exit (wx_block_exit (wx_then (wc_seq (wc_region ?_))))
  iterate 2 refine wl_pure tt_ok rfl rfl ?_
  refine wl_pure (v := .int .u8 (IntKind.wrap .u8 j7_0)) tt_ok rfl rfl ?_
  refine wl_chg (chg_bsv (enc := (e1 .u8)) (xs := ([(IntKind.wrap .u8 j7_0)] : List Int)) tt_ok rfl rfl rfl rfl rfl rfl rfl rfl (e1_len _)) rfl ?_
  rintro _ _ ⟨a18, n18_, c18, B18, rfl, N18, V18, rfl⟩
  replace h := bsome h; obtain ⟨v19, x19, h⟩ := h
  refine wl_chg (chg_app (enc := (e1 .u8)) (ys := ([(IntKind.wrap .u8 j7_0)] : List Int)) tt_ok rfl rfl rfl rfl rfl rfl j7_3N0 N18 j7_3V0 (Sel.sa Sel.ha) (Rds.of_vec V18) ⟨_, Sel.ha⟩ (e1_len _) (fun _ => rfl) rfl x19) rfl ?_
  rintro _ _ ⟨a19, n19_, c19, B19, rfl, N19, V19, rfl⟩
  refine wl_val (v := .string ⟨(toB v19).toArray⟩) (val_b2s (xs := v19) tt_ok rfl rfl rfl rfl N19 (Rds.of_vec V19) ⟨_, Sel.ha⟩) rfl ?_
  refine wl_pure tt_ok rfl rfl ?_
  refine wl_nil (wx_then (wc_ret ?_))
  simp only [Option.some.injEq] at h
  obtain rfl := h
  exact wx_pf tt_ok (.inl rfl) Tryd.results87 (Res.tmp rfl Res.nil) rfl

theorem k_hindcastref08_Put {F : Nat} {p0 : T_api_State} {p0a0 : Option Addr} {p0n0 p0c0 : Nat} {r0 : (List UInt8)} (p0N0 : p0n0 = p0.Shots.length) (p0H0 : p0n0 ≤ p0c0) (h : m_hindcastref08_Put F p0 = some r0) :
    Pf Tryd.prog 68 [.agg #[.int .u64 p0.Frame, .int .u64 p0.Seed, .int .i32 p0.Players.1.X, .int .i32 p0.Players.1.Y, .int .i32 p0.Players.1.VX, .int .i32 p0.Players.1.VY, .int .u8 p0.Players.1.Health, .int .u8 p0.Players.1.Cool, .int .u8 p0.Players.1.Face, .int .i32 p0.Players.2.X, .int .i32 p0.Players.2.Y, .int .i32 p0.Players.2.VX, .int .i32 p0.Players.2.VY, .int .u8 p0.Players.2.Health, .int .u8 p0.Players.2.Cool, .int .u8 p0.Players.2.Face, .slice p0a0 p0n0 p0c0, .int .u16 p0.Score.1, .int .u16 p0.Score.2]] (fun w => Rds w [] [] p0a0 (flat c_T_api_Shot p0.Shots)) (.string ⟨r0.toArray⟩) := by
  unfold m_hindcastref08_Put at h
  refine pf_of_wc Tryd.func68 rfl Tryd.ntmps68 rfl rfl (fun w0 hR => ?_)
  have p0S0 := hR
  refine wc_seq (wc_region ?_)
  refine wl_box rfl rfl rfl (fun b1 => ?_)
  refine wl_pure tt_ok rfl rfl ?_
  refine wl_nil (wx_then (wc_seq (wc_seq (wc_region ?_))))
  refine wl_val (v := .agg #[.int .u64 p0.Frame, .int .u64 p0.Seed, .int .i32 p0.Players.1.X, .int .i32 p0.Players.1.Y, .int .i32 p0.Players.1.VX, .int .i32 p0.Players.1.VY, .int .u8 p0.Players.1.Health, .int .u8 p0.Players.1.Cool, .int .u8 p0.Players.1.Face, .int .i32 p0.Players.2.X, .int .i32 p0.Players.2.Y, .int .i32 p0.Players.2.VX, .int .i32 p0.Players.2.VY, .int .u8 p0.Players.2.Health, .int .u8 p0.Players.2.Cool, .int .u8 p0.Players.2.Face, .slice p0a0 p0n0 p0c0, .int .u16 p0.Score.1, .int .u16 p0.Score.2]) (val_load tt_ok rfl (List.Mem.head _) rfl) rfl ?_
  replace h := bsome h; obtain ⟨v9, x9, h⟩ := h
  refine wl_cq Tryd.call84 rfl rfl rfl (q_pf (k_hindcastref08_Check (p0 := p0) p0N0 p0H0 x9) (Rds.call p0S0 pNil rsub_nil)) rfl ?_
  refine wl_pure (v := .bool (v9 != (0 : Int))) tt_ok rfl rfl ?_
  refine wl_nil (wx_then ?_)
  refine wc_cond rfl (fun hc => ?_) (fun hc => ?_)
  · replace h := ct hc h
    refine wc_seq (wc_region ?_)
    refine wl_pure tt_ok rfl rfl ?_
    refine wl_nil (wx_then (wc_ret (wx_then_ret ?_)))
    simp only [Option.some.injEq] at h
    obtain rfl := h
    exact wx_pf tt_ok (.inl rfl) Tryd.results68 (Res.tmp rfl Res.nil) rfl
  replace h := cf hc h
  refine wc_skip (wx_then (wc_seq ?_))
  refine wc_quiet (by kernel_rfl) (by kernel_rfl) ?_
  refine wq_pure (v := .pointer (some ⟨b1, 0, none⟩)) tt_ok rfl rfl ?_
  refine wq_val (v := .int .u64 p0.Frame) (val_load tt_ok rfl (List.Mem.head _) rfl) rfl ?_
  replace h := bsome h; obtain ⟨v13, x13, h⟩ := h
  refine wq_cq Tryd.call85 rfl rfl rfl (q_pf (k_hindcastref02_Number x13) (fun _ _ => trivial)) rfl ?_
  refine wq_pure (v := .pointer (some ⟨b1, 1, none⟩)) tt_ok rfl rfl ?_
  refine wq_val (v := .int .u64 p0.Seed) (val_load tt_ok rfl (List.Mem.head _) rfl) rfl ?_
  replace h := bsome h; obtain ⟨v16, x16, h⟩ := h
  refine wq_cq Tryd.call85 rfl rfl rfl (q_pf (k_hindcastref02_Number x16) (fun _ _ => trivial)) rfl ?_
  replace h := bsome h; obtain ⟨v17, x17, h⟩ := h
  refine wq_val (v := .string ⟨v17.toArray⟩) (val_cat tt_ok rfl rfl x17) rfl ?_
  refine wq_pure tt_ok rfl rfl ?_
  refine wq_nil ?_
  refine wx_then (wc_seq (wc_seq (wc_region ?_)))
  refine wl_pure tt_ok rfl rfl ?_
  refine wl_nil (wx_then (wc_block ?_))
  replace h := bsome h; obtain ⟨l17_3, h, hl17⟩ := h
  refine wc_loop (fun m E L => ∃ (j17_3 : (List UInt8)) (j17_4 : Int), m_hindcastref08_Put_L16 F p0 m j17_3 j17_4 = some l17_3 ∧ E = [(1, .pointer (some ⟨b1, 0, none⟩)), (2, .string ⟨([] : List UInt8).toArray⟩), (3, .string ⟨j17_3.toArray⟩), (4, .int .i64 j17_4)] ∧ L = (⟨b1, [.int .u64 p0.Frame, .int .u64 p0.Seed, .int .i32 p0.Players.1.X, .int .i32 p0.Players.1.Y, .int .i32 p0.Players.1.VX, .int .i32 p0.Players.1.VY, .int .u8 p0.Players.1.Health, .int .u8 p0.Players.1.Cool, .int .u8 p0.Players.1.Face, .int .i32 p0.Players.2.X, .int .i32 p0.Players.2.Y, .int .i32 p0.Players.2.VX, .int .i32 p0.Players.2.VY, .int .u8 p0.Players.2.Health, .int .u8 p0.Players.2.Cool, .int .u8 p0.Players.2.Face, .slice p0a0 p0n0 p0c0, .int .u16 p0.Score.1, .int .u16 p0.Score.2], 41, (0, 0)⟩ :: [])) F ⟨v17, (0 : Int), h, rfl, rfl⟩ (agree_cons rfl (agree_cons rfl (agree_cons rfl (agree_cons rfl agree_nil)))) (pSub (pCons Sel.hc pNil)) ?_
  clear h
  rintro m17 _ _ ⟨j17_3, j17_4, h, rfl, rfl⟩
  rcases m17 with _ | m17
  · rw [m_hindcastref08_Put_L16.eq_1] at h; cases h
  rw [m_hindcastref08_Put_L16.eq_2] at h
  refine wc_seq (wc_seq (wc_region ?_))
  refine wl_pure tt_ok rfl rfl ?_
  refine wl_pure (v := .bool (decide (j17_4 < (2 : Int)))) tt_ok rfl rfl ?_
  refine wl_nil (wx_then ?_)
  refine wc_cond rfl (fun hc => ?_) (fun hc => ?_)
  · replace h := ct hc h
    refine wc_skip (wx_then (wc_seq (wc_block (wc_seq (wc_region ?_)))))
    refine wl_pure tt_ok rfl rfl ?_
    refine wl_pure (v := .pointer (some ⟨b1, 2, none⟩)) tt_ok rfl rfl ?_
    rcases Bool.eq_false_or_eq_true (j17_4 == (0 : Int)) with hx240 | hx240
    · replace h := ct hx240 h
      refine wl_val (v := .pointer (some ⟨b1, 2, none⟩)) (val_ia (j := 0) tt_ok rfl rfl rfl rfl (by simpa using hx240) rfl rfl) rfl ?_
      refine wl_val (v := .agg #[.int .i32 p0.Players.1.X, .int .i32 p0.Players.1.Y, .int .i32 p0.Players.1.VX, .int .i32 p0.Players.1.VY, .int .u8 p0.Players.1.Health, .int .u8 p0.Players.1.Cool, .int .u8 p0.Players.1.Face]) (val_load tt_ok rfl (List.Mem.head _) rfl) rfl ?_
      refine wl_alloc tt_ok rfl rfl (fun b5 => ?_)
      apply wl_store tt_ok; rfl; exact Upd.here; rfl; rfl; rfl; rfl; rfl; rfl
      refine wl_nil (wx_then ?_)
      refine wc_k2 (Ls := (⟨b5, [.int .i32 p0.Players.1.X, .int .i32 p0.Players.1.Y, .int .i32 p0.Players.1.VX, .int .i32 p0.Players.1.VY, .int .u8 p0.Players.1.Health, .int .u8 p0.Players.1.Cool, .int .u8 p0.Players.1.Face], 35, (0, 0)⟩ :: (⟨b1, [.int .u64 p0.Frame, .int .u64 p0.Seed, .int .i32 p0.Players.1.X, .int .i32 p0.Players.1.Y, .int .i32 p0.Players.1.VX, .int .i32 p0.Players.1.VY, .int .u8 p0.Players.1.Health, .int .u8 p0.Players.1.Cool, .int .u8 p0.Players.1.Face, .int .i32 p0.Players.2.X, .int .i32 p0.Players.2.Y, .int .i32 p0.Players.2.VX, .int .i32 p0.Players.2.VY, .int .u8 p0.Players.2.Health, .int .u8 p0.Players.2.Cool, .int .u8 p0.Players.2.Face, .slice p0a0 p0n0 p0c0, .int .u16 p0.Score.1, .int .u16 p0.Score.2], 41, (0, 0)⟩ :: []))) [3, 7, 11, 15, 23] [] [0, 0, 2, 6, 15, 0, 32, 110, 255, 0, 512, 1774, 4095, 0, 8192, 28398, 65535, 0, 131072, 0, 524288, 0, 2097152, 8257536, 16646144, 33554431, 67108863] [0, 1, 2, 5, 6, 9, 10, 13, 14, 17, 18, 19, 20, 21, 22] (by kernel_rfl) (by kernel_rfl) (by kernel_rfl) ?_
      refine k_val rfl rfl rfl (pSub (pCons Sel.hc (pCons Sel.hc pNil))) (stepV_ok tt_ok rfl) rfl ?_
      refine k_val (v := .pointer (some ⟨b5, 0, none⟩)) rfl rfl rfl (pSub (pCons Sel.hc (pCons Sel.hc pNil))) (stepV_ok tt_ok rfl) rfl ?_
      refine k_val (v := .int .i32 p0.Players.1.X) rfl rfl rfl (pSub (pCons Sel.hc (pCons Sel.hc pNil))) (val_load tt_ok rfl (List.Mem.head _) rfl) rfl ?_
      refine k_val (v := .pointer (some ⟨b5, 1, none⟩)) rfl rfl rfl (pSub (pCons Sel.hc (pCons Sel.hc pNil))) (stepV_ok tt_ok rfl) rfl ?_
      refine k_val (v := .int .i32 p0.Players.1.Y) rfl rfl rfl (pSub (pCons Sel.hc (pCons Sel.hc pNil))) (val_load tt_ok rfl (List.Mem.head _) rfl) rfl ?_
      refine k_val (v := .pointer (some ⟨b5, 2, none⟩)) rfl rfl rfl (pSub (pCons Sel.hc (pCons Sel.hc pNil))) (stepV_ok tt_ok rfl) rfl ?_
      refine k_val (v := .int .i32 p0.Players.1.VX) rfl rfl rfl (pSub (pCons Sel.hc (pCons Sel.hc pNil))) (val_load tt_ok rfl (List.Mem.head _) rfl) rfl ?_
      refine k_val (v := .pointer (some ⟨b5, 3, none⟩)) rfl rfl rfl (pSub (pCons Sel.hc (pCons Sel.hc pNil))) (stepV_ok tt_ok rfl) rfl ?_
      refine k_val (v := .int .i32 p0.Players.1.VY) rfl rfl rfl (pSub (pCons Sel.hc (pCons Sel.hc pNil))) (val_load tt_ok rfl (List.Mem.head _) rfl) rfl ?_
      refine k_val (v := .pointer (some ⟨b5, 4, none⟩)) rfl rfl rfl (pSub (pCons Sel.hc (pCons Sel.hc pNil))) (stepV_ok tt_ok rfl) rfl ?_
      refine k_val (v := .int .u8 p0.Players.1.Health) rfl rfl rfl (pSub (pCons Sel.hc (pCons Sel.hc pNil))) (val_load tt_ok rfl (List.Mem.head _) rfl) rfl ?_
      refine k_val (v := .pointer (some ⟨b5, 5, none⟩)) rfl rfl rfl (pSub (pCons Sel.hc (pCons Sel.hc pNil))) (stepV_ok tt_ok rfl) rfl ?_
      refine k_val (v := .int .u8 p0.Players.1.Cool) rfl rfl rfl (pSub (pCons Sel.hc (pCons Sel.hc pNil))) (val_load tt_ok rfl (List.Mem.head _) rfl) rfl ?_
      refine k_val (v := .pointer (some ⟨b5, 6, none⟩)) rfl rfl rfl (pSub (pCons Sel.hc (pCons Sel.hc pNil))) (stepV_ok tt_ok rfl) rfl ?_
      refine k_val (v := .int .u8 p0.Players.1.Face) rfl rfl rfl (pSub (pCons Sel.hc (pCons Sel.hc pNil))) (val_load tt_ok rfl (List.Mem.head _) rfl) rfl ?_
      refine k_two (i := 3) (j := 23) (t1 := [4]) (t2 := [24, 3, 4, 7, 8, 11, 12, 15, 16, 25, 26]) (by kernel_rfl) (by kernel_rfl) (by kernel_rfl) (by kernel_rfl) ?_ ?_
      · replace h := bsome h; obtain ⟨v29, x29, h⟩ := h
        refine k_cqf rfl rfl Tryd.call86 rfl rfl rfl (q_pf (k_hindcastref08_signed x29) (fun _ _ => trivial)) rfl (pSub (pCons Sel.hc (pCons Sel.hc pNil))) ?_
        replace h := bsome h; obtain ⟨v30, x30, h⟩ := h
        refine k_val (v := .string ⟨v30.toArray⟩) rfl rfl rfl (pSub (pCons Sel.hc (pCons Sel.hc pNil))) (val_cat tt_ok rfl rfl x30) rfl ?_
        refine k_two (i := 7) (j := 23) (t1 := [8]) (t2 := [24, 7, 8, 11, 12, 15, 16, 25, 26]) (by kernel_rfl) (by kernel_rfl) (by kernel_rfl) (by kernel_rfl) ?_ ?_
        · replace h := bsome h; obtain ⟨v33, x33, h⟩ := h
          refine k_cqf rfl rfl Tryd.call86 rfl rfl rfl (q_pf (k_hindcastref08_signed x33) (fun _ _ => trivial)) rfl (pSub (pCons Sel.hc (pCons Sel.hc pNil))) ?_
          replace h := bsome h; obtain ⟨v34, x34, h⟩ := h
          refine k_val (v := .string ⟨v34.toArray⟩) rfl rfl rfl (pSub (pCons Sel.hc (pCons Sel.hc pNil))) (val_cat tt_ok rfl rfl x34) rfl ?_
          refine k_two (i := 11) (j := 23) (t1 := [12]) (t2 := [24, 11, 12, 15, 16, 25, 26]) (by kernel_rfl) (by kernel_rfl) (by kernel_rfl) (by kernel_rfl) ?_ ?_
          · replace h := bsome h; obtain ⟨v37, x37, h⟩ := h
            refine k_cqf rfl rfl Tryd.call86 rfl rfl rfl (q_pf (k_hindcastref08_signed x37) (fun _ _ => trivial)) rfl (pSub (pCons Sel.hc (pCons Sel.hc pNil))) ?_
            replace h := bsome h; obtain ⟨v38, x38, h⟩ := h
            refine k_val (v := .string ⟨v38.toArray⟩) rfl rfl rfl (pSub (pCons Sel.hc (pCons Sel.hc pNil))) (val_cat tt_ok rfl rfl x38) rfl ?_
            refine k_two (i := 15) (j := 23) (t1 := [16, 23, 24, 25, 26]) (t2 := [24, 15, 16, 25, 26]) (by kernel_rfl) (by kernel_rfl) (by kernel_rfl) (by kernel_rfl) ?_ ?_
            · replace h := bsome h; obtain ⟨v41, x41, h⟩ := h
              refine k_cqf rfl rfl Tryd.call86 rfl rfl rfl (q_pf (k_hindcastref08_signed x41) (fun _ _ => trivial)) rfl (pSub (pCons Sel.hc (pCons Sel.hc pNil))) ?_
              replace h := bsome h; obtain ⟨v42, x42, h⟩ := h
              refine k_val (v := .string ⟨v42.toArray⟩) rfl rfl rfl (pSub (pCons Sel.hc (pCons Sel.hc pNil))) (val_cat tt_ok rfl rfl x42) rfl ?_
              refine k_chg rfl rfl rfl (chg_bsv (enc := (e1 .u8)) (xs := ([p0.Players.1.Health, p0.Players.1.Cool, p0.Players.1.Face] : List Int)) tt_ok rfl rfl rfl rfl rfl rfl rfl rfl (e1_len _)) rfl (.inr (by rintro _ _ ⟨_, _, _, _, rfl, _, _, rfl⟩; exact ⟨_, (pCons (Sel.sa Sel.hc) (pCons (Sel.sa Sel.hc) pNil))⟩)) ?_
              rintro _ _ ⟨a49, n49_, c49, B49, rfl, N49, V49, rfl⟩
              refine k_ls (Ls' := (B49 ++ (⟨b5, [.int .i32 p0.Players.1.X, .int .i32 p0.Players.1.Y, .int .i32 p0.Players.1.VX, .int .i32 p0.Players.1.VY, .int .u8 p0.Players.1.Health, .int .u8 p0.Players.1.Cool, .int .u8 p0.Players.1.Face], 35, (0, 0)⟩ :: (⟨b1, [.int .u64 p0.Frame, .int .u64 p0.Seed, .int .i32 p0.Players.1.X, .int .i32 p0.Players.1.Y, .int .i32 p0.Players.1.VX, .int .i32 p0.Players.1.VY, .int .u8 p0.Players.1.Health, .int .u8 p0.Players.1.Cool, .int .u8 p0.Players.1.Face, .int .i32 p0.Players.2.X, .int .i32 p0.Players.2.Y, .int .i32 p0.Players.2.VX, .int .i32 p0.Players.2.VY, .int .u8 p0.Players.2.Health, .int .u8 p0.Players.2.Cool, .int .u8 p0.Players.2.Face, .slice p0a0 p0n0 p0c0, .int .u16 p0.Score.1, .int .u16 p0.Score.2], 41, (0, 0)⟩ :: [])))) (pSub (pCons (Sel.sa Sel.hc) (pCons (Sel.sa Sel.hc) pNil))) ?_
              refine k_val (v := .string ⟨(toB ([p0.Players.1.Health, p0.Players.1.Cool, p0.Players.1.Face] : List Int)).toArray⟩) rfl rfl rfl (pSub (pApp Sel.ha (pCons Sel.hc (pCons Sel.hc pNil)))) (val_b2s (xs := ([p0.Players.1.Health, p0.Players.1.Cool, p0.Players.1.Face] : List Int)) tt_ok rfl rfl rfl rfl N49 (Rds.of_vec V49) ⟨_, Sel.ha⟩) rfl ?_
              replace h := bsome h; obtain ⟨v51, x51, h⟩ := h
              refine k_val (v := .string ⟨v51.toArray⟩) rfl rfl rfl (pSub (pApp Sel.ha (pCons Sel.hc (pCons Sel.hc pNil)))) (val_cat tt_ok rfl rfl x51) rfl ?_
              refine k_val rfl rfl rfl (pSub (pApp Sel.ha (pCons Sel.hc (pCons Sel.hc pNil)))) (stepV_ok tt_ok rfl) rfl ?_
              refine k_end (by kernel_rfl) ?_
              refine wx_block (wx_then (wc_region ?_))
              refine wl_pure tt_ok rfl rfl ?_
              refine wl_pure (v := .int .i64 (IntKind.wrap .i64 (j17_4 + (1 : Int)))) tt_ok rfl rfl ?_
              refine wl_pure tt_ok rfl rfl ?_
              refine wl_nil ?_
              exact wx_round m17 (Nat.lt_succ_self m17) ⟨v51, (IntKind.wrap .i64 (j17_4 + (1 : Int))), h, rfl, rfl⟩ (agree_cons rfl (agree_cons rfl (agree_cons rfl (agree_cons rfl agree_nil)))) (pSub (pCons (Sel.sa (Sel.sc Sel.hc)) pNil))
            refine k_chgf rfl rfl (chg_bsv (enc := (e1 .u8)) (xs := ([p0.Players.1.Health, p0.Players.1.Cool, p0.Players.1.Face] : List Int)) tt_ok rfl rfl rfl rfl rfl rfl rfl rfl (e1_len _)) rfl (.inr (by rintro _ _ ⟨_, _, _, _, rfl, _, _, rfl⟩; exact ⟨_, (pCons (Sel.sa Sel.hc) (pCons (Sel.sa Sel.hc) pNil))⟩)) ?_
            rintro _ _ ⟨a49, n49_, c49, B49, rfl, N49, V49, rfl⟩
            refine k_ls (Ls' := (B49 ++ (⟨b5, [.int .i32 p0.Players.1.X, .int .i32 p0.Players.1.Y, .int .i32 p0.Players.1.VX, .int .i32 p0.Players.1.VY, .int .u8 p0.Players.1.Health, .int .u8 p0.Players.1.Cool, .int .u8 p0.Players.1.Face], 35, (0, 0)⟩ :: (⟨b1, [.int .u64 p0.Frame, .int .u64 p0.Seed, .int .i32 p0.Players.1.X, .int .i32 p0.Players.1.Y, .int .i32 p0.Players.1.VX, .int .i32 p0.Players.1.VY, .int .u8 p0.Players.1.Health, .int .u8 p0.Players.1.Cool, .int .u8 p0.Players.1.Face, .int .i32 p0.Players.2.X, .int .i32 p0.Players.2.Y, .int .i32 p0.Players.2.VX, .int .i32 p0.Players.2.VY, .int .u8 p0.Players.2.Health, .int .u8 p0.Players.2.Cool, .int .u8 p0.Players.2.Face, .slice p0a0 p0n0 p0c0, .int .u16 p0.Score.1, .int .u16 p0.Score.2], 41, (0, 0)⟩ :: [])))) (pSub (pCons (Sel.sa Sel.hc) (pCons (Sel.sa Sel.hc) pNil))) ?_
            refine k_val (v := .string ⟨(toB ([p0.Players.1.Health, p0.Players.1.Cool, p0.Players.1.Face] : List Int)).toArray⟩) rfl rfl rfl (pSub (pApp Sel.ha (pCons Sel.hc (pCons Sel.hc pNil)))) (val_b2s (xs := ([p0.Players.1.Health, p0.Players.1.Cool, p0.Players.1.Face] : List Int)) tt_ok rfl rfl rfl rfl N49 (Rds.of_vec V49) ⟨_, Sel.ha⟩) rfl ?_
            replace h := bsome h; obtain ⟨v41, x41, h⟩ := h
            refine k_cq rfl rfl rfl Tryd.call86 rfl rfl rfl (q_pf (k_hindcastref08_signed x41) (fun _ _ => trivial)) rfl (pSub (pApp Sel.ha (pCons Sel.hc (pCons Sel.hc pNil)))) ?_
            replace h := bsome h; obtain ⟨v42, x42, h⟩ := h
            refine k_val (v := .string ⟨v42.toArray⟩) rfl rfl rfl (pSub (pApp Sel.ha (pCons Sel.hc (pCons Sel.hc pNil)))) (val_cat tt_ok rfl rfl x42) rfl ?_
            replace h := bsome h; obtain ⟨v51, x51, h⟩ := h
            refine k_val (v := .string ⟨v51.toArray⟩) rfl rfl rfl (pSub (pApp Sel.ha (pCons Sel.hc (pCons Sel.hc pNil)))) (val_cat tt_ok rfl rfl x51) rfl ?_
            refine k_val rfl rfl rfl (pSub (pApp Sel.ha (pCons Sel.hc (pCons Sel.hc pNil)))) (stepV_ok tt_ok rfl) rfl ?_
            refine k_end (by kernel_rfl) ?_
            refine wx_block (wx_then (wc_region ?_))
            refine wl_pure tt_ok rfl rfl ?_
            refine wl_pure (v := .int .i64 (IntKind.wrap .i64 (j17_4 + (1 : Int)))) tt_ok rfl rfl ?_
            refine wl_pure tt_ok rfl rfl ?_
            refine wl_nil ?_
            exact wx_round m17 (Nat.lt_succ_self m17) ⟨v51, (IntKind.wrap .i64 (j17_4 + (1 : Int))), h, rfl, rfl⟩ (agree_cons rfl (agree_cons rfl (agree_cons rfl (agree_cons rfl agree_nil)))) (pSub (pCons (Sel.sa (Sel.sc Sel.hc)) pNil))
          refine k_chgf rfl rfl (chg_bsv (enc := (e1 .u8)) (xs := ([p0.Players.1.Health, p0.Players.1.Cool, p0.Players.1.Face] : List Int)) tt_ok rfl rfl rfl rfl rfl rfl rfl rfl (e1_len _)) rfl (.inr (by rintro _ _ ⟨_, _, _, _, rfl, _, _, rfl⟩; exact ⟨_, (pCons (Sel.sa Sel.hc) (pCons (Sel.sa Sel.hc) pNil))⟩)) ?_
          rintro _ _ ⟨a49, n49_, c49, B49, rfl, N49, V49, rfl⟩
          refine k_ls (Ls' := (B49 ++ (⟨b5, [.int .i32 p0.Players.1.X, .int .i32 p0.Players.1.Y, .int .i32 p0.Players.1.VX, .int .i32 p0.Players.1.VY, .int .u8 p0.Players.1.Health, .int .u8 p0.Players.1.Cool, .int .u8 p0.Players.1.Face], 35, (0, 0)⟩ :: (⟨b1, [.int .u64 p0.Frame, .int .u64 p0.Seed, .int .i32 p0.Players.1.X, .int .i32 p0.Players.1.Y, .int .i32 p0.Players.1.VX, .int .i32 p0.Players.1.VY, .int .u8 p0.Players.1.Health, .int .u8 p0.Players.1.Cool, .int .u8 p0.Players.1.Face, .int .i32 p0.Players.2.X, .int .i32 p0.Players.2.Y, .int .i32 p0.Players.2.VX, .int .i32 p0.Players.2.VY, .int .u8 p0.Players.2.Health, .int .u8 p0.Players.2.Cool, .int .u8 p0.Players.2.Face, .slice p0a0 p0n0 p0c0, .int .u16 p0.Score.1, .int .u16 p0.Score.2], 41, (0, 0)⟩ :: [])))) (pSub (pCons (Sel.sa Sel.hc) (pCons (Sel.sa Sel.hc) pNil))) ?_
          refine k_val (v := .string ⟨(toB ([p0.Players.1.Health, p0.Players.1.Cool, p0.Players.1.Face] : List Int)).toArray⟩) rfl rfl rfl (pSub (pApp Sel.ha (pCons Sel.hc (pCons Sel.hc pNil)))) (val_b2s (xs := ([p0.Players.1.Health, p0.Players.1.Cool, p0.Players.1.Face] : List Int)) tt_ok rfl rfl rfl rfl N49 (Rds.of_vec V49) ⟨_, Sel.ha⟩) rfl ?_
          replace h := bsome h; obtain ⟨v37, x37, h⟩ := h
          refine k_cq rfl rfl rfl Tryd.call86 rfl rfl rfl (q_pf (k_hindcastref08_signed x37) (fun _ _ => trivial)) rfl (pSub (pApp Sel.ha (pCons Sel.hc (pCons Sel.hc pNil)))) ?_
          replace h := bsome h; obtain ⟨v38, x38, h⟩ := h
          refine k_val (v := .string ⟨v38.toArray⟩) rfl rfl rfl (pSub (pApp Sel.ha (pCons Sel.hc (pCons Sel.hc pNil)))) (val_cat tt_ok rfl rfl x38) rfl ?_
          replace h := bsome h; obtain ⟨v41, x41, h⟩ := h
          refine k_cq rfl rfl rfl Tryd.call86 rfl rfl rfl (q_pf (k_hindcastref08_signed x41) (fun _ _ => trivial)) rfl (pSub (pApp Sel.ha (pCons Sel.hc (pCons Sel.hc pNil)))) ?_
          replace h := bsome h; obtain ⟨v42, x42, h⟩ := h
          refine k_val (v := .string ⟨v42.toArray⟩) rfl rfl rfl (pSub (pApp Sel.ha (pCons Sel.hc (pCons Sel.hc pNil)))) (val_cat tt_ok rfl rfl x42) rfl ?_
          replace h := bsome h; obtain ⟨v51, x51, h⟩ := h
          refine k_val (v := .string ⟨v51.toArray⟩) rfl rfl rfl (pSub (pApp Sel.ha (pCons Sel.hc (pCons Sel.hc pNil)))) (val_cat tt_ok rfl rfl x51) rfl ?_
          refine k_val rfl rfl rfl (pSub (pApp Sel.ha (pCons Sel.hc (pCons Sel.hc pNil)))) (stepV_ok tt_ok rfl) rfl ?_
          refine k_end (by kernel_rfl) ?_
          refine wx_block (wx_then (wc_region ?_))
          refine wl_pure tt_ok rfl rfl ?_
          refine wl_pure (v := .int .i64 (IntKind.wrap .i64 (j17_4 + (1 : Int)))) tt_ok rfl rfl ?_
          refine wl_pure tt_ok rfl rfl ?_
          refine wl_nil ?_
          exact wx_round m17 (Nat.lt_succ_self m17) ⟨v51, (IntKind.wrap .i64 (j17_4 + (1 : Int))), h, rfl, rfl⟩ (agree_cons rfl (agree_cons rfl (agree_cons rfl (agree_cons rfl agree_nil)))) (pSub (pCons (Sel.sa (Sel.sc Sel.hc)) pNil))
        refine k_chgf rfl rfl (chg_bsv (enc := (e1 .u8)) (xs := ([p0.Players.1.Health, p0.Players.1.Cool, p0.Players.1.Face] : List Int)) tt_ok rfl rfl rfl rfl rfl rfl rfl rfl (e1_len _)) rfl (.inr (by rintro _ _ ⟨_, _, _, _, rfl, _, _, rfl⟩; exact ⟨_, (pCons (Sel.sa Sel.hc) (pCons (Sel.sa Sel.hc) pNil))⟩)) ?_
        rintro _ _ ⟨a49, n49_, c49, B49, rfl, N49, V49, rfl⟩
        refine k_ls (Ls' := (B49 ++ (⟨b5, [.int .i32 p0.Players.1.X, .int .i32 p0.Players.1.Y, .int .i32 p0.Players.1.VX, .int .i32 p0.Players.1.VY, .int .u8 p0.Players.1.Health, .int .u8 p0.Players.1.Cool, .int .u8 p0.Players.1.Face], 35, (0, 0)⟩ :: (⟨b1, [.int .u64 p0.Frame, .int .u64 p0.Seed, .int .i32 p0.Players.1.X, .int .i32 p0.Players.1.Y, .int .i32 p0.Players.1.VX, .int .i32 p0.Players.1.VY, .int .u8 p0.Players.1.Health, .int .u8 p0.Players.1.Cool, .int .u8 p0.Players.1.Face, .int .i32 p0.Players.2.X, .int .i32 p0.Players.2.Y, .int .i32 p0.Players.2.VX, .int .i32 p0.Players.2.VY, .int .u8 p0.Players.2.Health, .int .u8 p0.Players.2.Cool, .int .u8 p0.Players.2.Face, .slice p0a0 p0n0 p0c0, .int .u16 p0.Score.1, .int .u16 p0.Score.2], 41, (0, 0)⟩ :: [])))) (pSub (pCons (Sel.sa Sel.hc) (pCons (Sel.sa Sel.hc) pNil))) ?_
        refine k_val (v := .string ⟨(toB ([p0.Players.1.Health, p0.Players.1.Cool, p0.Players.1.Face] : List Int)).toArray⟩) rfl rfl rfl (pSub (pApp Sel.ha (pCons Sel.hc (pCons Sel.hc pNil)))) (val_b2s (xs := ([p0.Players.1.Health, p0.Players.1.Cool, p0.Players.1.Face] : List Int)) tt_ok rfl rfl rfl rfl N49 (Rds.of_vec V49) ⟨_, Sel.ha⟩) rfl ?_
        replace h := bsome h; obtain ⟨v33, x33, h⟩ := h
        refine k_cq rfl rfl rfl Tryd.call86 rfl rfl rfl (q_pf (k_hindcastref08_signed x33) (fun _ _ => trivial)) rfl (pSub (pApp Sel.ha (pCons Sel.hc (pCons Sel.hc pNil)))) ?_
        replace h := bsome h; obtain ⟨v34, x34, h⟩ := h
        refine k_val (v := .string ⟨v34.toArray⟩) rfl rfl rfl (pSub (pApp Sel.ha (pCons Sel.hc (pCons Sel.hc pNil)))) (val_cat tt_ok rfl rfl x34) rfl ?_
        replace h := bsome h; obtain ⟨v37, x37, h⟩ := h
        refine k_cq rfl rfl rfl Tryd.call86 rfl rfl rfl (q_pf (k_hindcastref08_signed x37) (fun _ _ => trivial)) rfl (pSub (pApp Sel.ha (pCons Sel.hc (pCons Sel.hc pNil)))) ?_
        replace h := bsome h; obtain ⟨v38, x38, h⟩ := h
        refine k_val (v := .string ⟨v38.toArray⟩) rfl rfl rfl (pSub (pApp Sel.ha (pCons Sel.hc (pCons Sel.hc pNil)))) (val_cat tt_ok rfl rfl x38) rfl ?_
        replace h := bsome h; obtain ⟨v41, x41, h⟩ := h
        refine k_cq rfl rfl rfl Tryd.call86 rfl rfl rfl (q_pf (k_hindcastref08_signed x41) (fun _ _ => trivial)) rfl (pSub (pApp Sel.ha (pCons Sel.hc (pCons Sel.hc pNil)))) ?_
        replace h := bsome h; obtain ⟨v42, x42, h⟩ := h
        refine k_val (v := .string ⟨v42.toArray⟩) rfl rfl rfl (pSub (pApp Sel.ha (pCons Sel.hc (pCons Sel.hc pNil)))) (val_cat tt_ok rfl rfl x42) rfl ?_
        replace h := bsome h; obtain ⟨v51, x51, h⟩ := h
        refine k_val (v := .string ⟨v51.toArray⟩) rfl rfl rfl (pSub (pApp Sel.ha (pCons Sel.hc (pCons Sel.hc pNil)))) (val_cat tt_ok rfl rfl x51) rfl ?_
        refine k_val rfl rfl rfl (pSub (pApp Sel.ha (pCons Sel.hc (pCons Sel.hc pNil)))) (stepV_ok tt_ok rfl) rfl ?_
        refine k_end (by kernel_rfl) ?_
        refine wx_block (wx_then (wc_region ?_))
        refine wl_pure tt_ok rfl rfl ?_
        refine wl_pure (v := .int .i64 (IntKind.wrap .i64 (j17_4 + (1 : Int)))) tt_ok rfl rfl ?_
        refine wl_pure tt_ok rfl rfl ?_
        refine wl_nil ?_
        exact wx_round m17 (Nat.lt_succ_self m17) ⟨v51, (IntKind.wrap .i64 (j17_4 + (1 : Int))), h, rfl, rfl⟩ (agree_cons rfl (agree_cons rfl (agree_cons rfl (agree_cons rfl agree_nil)))) (pSub (pCons (Sel.sa (Sel.sc Sel.hc)) pNil))
      refine k_chgf rfl rfl (chg_bsv (enc := (e1 .u8)) (xs := ([p0.Players.1.Health, p0.Players.1.Cool, p0.Players.1.Face] : List Int)) tt_ok rfl rfl rfl rfl rfl rfl rfl rfl (e1_len _)) rfl (.inr (by rintro _ _ ⟨_, _, _, _, rfl, _, _, rfl⟩; exact ⟨_, (pCons (Sel.sa Sel.hc) (pCons (Sel.sa Sel.hc) pNil))⟩)) ?_
      rintro _ _ ⟨a49, n49_, c49, B49, rfl, N49, V49, rfl⟩
      refine k_ls (Ls' := (B49 ++ (⟨b5, [.int .i32 p0.Players.1.X, .int .i32 p0.Players.1.Y, .int .i32 p0.Players.1.VX, .int .i32 p0.Players.1.VY, .int .u8 p0.Players.1.Health, .int .u8 p0.Players.1.Cool, .int .u8 p0.Players.1.Face], 35, (0, 0)⟩ :: (⟨b1, [.int .u64 p0.Frame, .int .u64 p0.Seed, .int .i32 p0.Players.1.X, .int .i32 p0.Players.1.Y, .int .i32 p0.Players.1.VX, .int .i32 p0.Players.1.VY, .int .u8 p0.Players.1.Health, .int .u8 p0.Players.1.Cool, .int .u8 p0.Players.1.Face, .int .i32 p0.Players.2.X, .int .i32 p0.Players.2.Y, .int .i32 p0.Players.2.VX, .int .i32 p0.Players.2.VY, .int .u8 p0.Players.2.Health, .int .u8 p0.Players.2.Cool, .int .u8 p0.Players.2.Face, .slice p0a0 p0n0 p0c0, .int .u16 p0.Score.1, .int .u16 p0.Score.2], 41, (0, 0)⟩ :: [])))) (pSub (pCons (Sel.sa Sel.hc) (pCons (Sel.sa Sel.hc) pNil))) ?_
      refine k_val (v := .string ⟨(toB ([p0.Players.1.Health, p0.Players.1.Cool, p0.Players.1.Face] : List Int)).toArray⟩) rfl rfl rfl (pSub (pApp Sel.ha (pCons Sel.hc (pCons Sel.hc pNil)))) (val_b2s (xs := ([p0.Players.1.Health, p0.Players.1.Cool, p0.Players.1.Face] : List Int)) tt_ok rfl rfl rfl rfl N49 (Rds.of_vec V49) ⟨_, Sel.ha⟩) rfl ?_
      replace h := bsome h; obtain ⟨v29, x29, h⟩ := h
      refine k_cq rfl rfl rfl Tryd.call86 rfl rfl rfl (q_pf (k_hindcastref08_signed x29) (fun _ _ => trivial)) rfl (pSub (pApp Sel.ha (pCons Sel.hc (pCons Sel.hc pNil)))) ?_
      replace h := bsome h; obtain ⟨v30, x30, h⟩ := h
      refine k_val (v := .string ⟨v30.toArray⟩) rfl rfl rfl (pSub (pApp Sel.ha (pCons Sel.hc (pCons Sel.hc pNil)))) (val_cat tt_ok rfl rfl x30) rfl ?_
      replace h := bsome h; obtain ⟨v33, x33, h⟩ := h
      refine k_cq rfl rfl rfl Tryd.call86 rfl rfl rfl (q_pf (k_hindcastref08_signed x33) (fun _ _ => trivial)) rfl (pSub (pApp Sel.ha (pCons Sel.hc (pCons Sel.hc pNil)))) ?_
      replace h := bsome h; obtain ⟨v34, x34, h⟩ := h
      refine k_val (v := .string ⟨v34.toArray⟩) rfl rfl rfl (pSub (pApp Sel.ha (pCons Sel.hc (pCons Sel.hc pNil)))) (val_cat tt_ok rfl rfl x34) rfl ?_
      replace h := bsome h; obtain ⟨v37, x37, h⟩ := h
      refine k_cq rfl rfl rfl Tryd.call86 rfl rfl rfl (q_pf (k_hindcastref08_signed x37) (fun _ _ => trivial)) rfl (pSub (pApp Sel.ha (pCons Sel.hc (pCons Sel.hc pNil)))) ?_
      replace h := bsome h; obtain ⟨v38, x38, h⟩ := h
      refine k_val (v := .string ⟨v38.toArray⟩) rfl rfl rfl (pSub (pApp Sel.ha (pCons Sel.hc (pCons Sel.hc pNil)))) (val_cat tt_ok rfl rfl x38) rfl ?_
      replace h := bsome h; obtain ⟨v41, x41, h⟩ := h
      refine k_cq rfl rfl rfl Tryd.call86 rfl rfl rfl (q_pf (k_hindcastref08_signed x41) (fun _ _ => trivial)) rfl (pSub (pApp Sel.ha (pCons Sel.hc (pCons Sel.hc pNil)))) ?_
      replace h := bsome h; obtain ⟨v42, x42, h⟩ := h
      refine k_val (v := .string ⟨v42.toArray⟩) rfl rfl rfl (pSub (pApp Sel.ha (pCons Sel.hc (pCons Sel.hc pNil)))) (val_cat tt_ok rfl rfl x42) rfl ?_
      replace h := bsome h; obtain ⟨v51, x51, h⟩ := h
      refine k_val (v := .string ⟨v51.toArray⟩) rfl rfl rfl (pSub (pApp Sel.ha (pCons Sel.hc (pCons Sel.hc pNil)))) (val_cat tt_ok rfl rfl x51) rfl ?_
      refine k_val rfl rfl rfl (pSub (pApp Sel.ha (pCons Sel.hc (pCons Sel.hc pNil)))) (stepV_ok tt_ok rfl) rfl ?_
      refine k_end (by kernel_rfl) ?_
      refine wx_block (wx_then (wc_region ?_))
      refine wl_pure tt_ok rfl rfl ?_
      refine wl_pure (v := .int .i64 (IntKind.wrap .i64 (j17_4 + (1 : Int)))) tt_ok rfl rfl ?_
      refine wl_pure tt_ok rfl rfl ?_
      refine wl_nil ?_
      exact wx_round m17 (Nat.lt_succ_self m17) ⟨v51, (IntKind.wrap .i64 (j17_4 + (1 : Int))), h, rfl, rfl⟩ (agree_cons rfl (agree_cons rfl (agree_cons rfl (agree_cons rfl agree_nil)))) (pSub (pCons (Sel.sa (Sel.sc Sel.hc)) pNil))
    replace h := cf hx240 h
    rcases Bool.eq_false_or_eq_true (j17_4 == (1 : Int)) with hx241 | hx241
    · replace h := ct hx241 h
      refine wl_val (v := .pointer (some ⟨b1, 9, none⟩)) (val_ia (j := 1) tt_ok rfl rfl rfl rfl (by simpa using hx241) rfl rfl) rfl ?_
      refine wl_val (v := .agg #[.int .i32 p0.Players.2.X, .int .i32 p0.Players.2.Y, .int .i32 p0.Players.2.VX, .int .i32 p0.Players.2.VY, .int .u8 p0.Players.2.Health, .int .u8 p0.Players.2.Cool, .int .u8 p0.Players.2.Face]) (val_load tt_ok rfl (List.Mem.head _) rfl) rfl ?_
      refine wl_alloc tt_ok rfl rfl (fun b5 => ?_)
      apply wl_store tt_ok; rfl; exact Upd.here; rfl; rfl; rfl; rfl; rfl; rfl
      refine wl_nil (wx_then ?_)
      refine wc_k2 (Ls := (⟨b5, [.int .i32 p0.Players.2.X, .int .i32 p0.Players.2.Y, .int .i32 p0.Players.2.VX, .int .i32 p0.Players.2.VY, .int .u8 p0.Players.2.Health, .int .u8 p0.Players.2.Cool, .int .u8 p0.Players.2.Face], 35, (0, 0)⟩ :: (⟨b1, [.int .u64 p0.Frame, .int .u64 p0.Seed, .int .i32 p0.Players.1.X, .int .i32 p0.Players.1.Y, .int .i32 p0.Players.1.VX, .int .i32 p0.Players.1.VY, .int .u8 p0.Players.1.Health, .int .u8 p0.Players.1.Cool, .int .u8 p0.Players.1.Face, .int .i32 p0.Players.2.X, .int .i32 p0.Players.2.Y, .int .i32 p0.Players.2.VX, .int .i32 p0.Players.2.VY, .int .u8 p0.Players.2.Health, .int .u8 p0.Players.2.Cool, .int .u8 p0.Players.2.Face, .slice p0a0 p0n0 p0c0, .int .u16 p0.Score.1, .int .u16 p0.Score.2], 41, (0, 0)⟩ :: []))) [3, 7, 11, 15, 23] [] [0, 0, 2, 6, 15, 0, 32, 110, 255, 0, 512, 1774, 4095, 0, 8192, 28398, 65535, 0, 131072, 0, 524288, 0, 2097152, 8257536, 16646144, 33554431, 67108863] [0, 1, 2, 5, 6, 9, 10, 13, 14, 17, 18, 19, 20, 21, 22] (by kernel_rfl) (by kernel_rfl) (by kernel_rfl) ?_
      refine k_val rfl rfl rfl (pSub (pCons Sel.hc (pCons Sel.hc pNil))) (stepV_ok tt_ok rfl) rfl ?_
      refine k_val (v := .pointer (some ⟨b5, 0, none⟩)) rfl rfl rfl (pSub (pCons Sel.hc (pCons Sel.hc pNil))) (stepV_ok tt_ok rfl) rfl ?_
      refine k_val (v := .int .i32 p0.Players.2.X) rfl rfl rfl (pSub (pCons Sel.hc (pCons Sel.hc pNil))) (val_load tt_ok rfl (List.Mem.head _) rfl) rfl ?_
      refine k_val (v := .pointer (some ⟨b5, 1, none⟩)) rfl rfl rfl (pSub (pCons Sel.hc (pCons Sel.hc pNil))) (stepV_ok tt_ok rfl) rfl ?_
      refine k_val (v := .int .i32 p0.Players.2.Y) rfl rfl rfl (pSub (pCons Sel.hc (pCons Sel.hc pNil))) (val_load tt_ok rfl (List.Mem.head _) rfl) rfl ?_
      refine k_val (v := .pointer (some ⟨b5, 2, none⟩)) rfl rfl rfl (pSub (pCons Sel.hc (pCons Sel.hc pNil))) (stepV_ok tt_ok rfl) rfl ?_
      refine k_val (v := .int .i32 p0.Players.2.VX) rfl rfl rfl (pSub (pCons Sel.hc (pCons Sel.hc pNil))) (val_load tt_ok rfl (List.Mem.head _) rfl) rfl ?_
      refine k_val (v := .pointer (some ⟨b5, 3, none⟩)) rfl rfl rfl (pSub (pCons Sel.hc (pCons Sel.hc pNil))) (stepV_ok tt_ok rfl) rfl ?_
      refine k_val (v := .int .i32 p0.Players.2.VY) rfl rfl rfl (pSub (pCons Sel.hc (pCons Sel.hc pNil))) (val_load tt_ok rfl (List.Mem.head _) rfl) rfl ?_
      refine k_val (v := .pointer (some ⟨b5, 4, none⟩)) rfl rfl rfl (pSub (pCons Sel.hc (pCons Sel.hc pNil))) (stepV_ok tt_ok rfl) rfl ?_
      refine k_val (v := .int .u8 p0.Players.2.Health) rfl rfl rfl (pSub (pCons Sel.hc (pCons Sel.hc pNil))) (val_load tt_ok rfl (List.Mem.head _) rfl) rfl ?_
      refine k_val (v := .pointer (some ⟨b5, 5, none⟩)) rfl rfl rfl (pSub (pCons Sel.hc (pCons Sel.hc pNil))) (stepV_ok tt_ok rfl) rfl ?_
      refine k_val (v := .int .u8 p0.Players.2.Cool) rfl rfl rfl (pSub (pCons Sel.hc (pCons Sel.hc pNil))) (val_load tt_ok rfl (List.Mem.head _) rfl) rfl ?_
      refine k_val (v := .pointer (some ⟨b5, 6, none⟩)) rfl rfl rfl (pSub (pCons Sel.hc (pCons Sel.hc pNil))) (stepV_ok tt_ok rfl) rfl ?_
      refine k_val (v := .int .u8 p0.Players.2.Face) rfl rfl rfl (pSub (pCons Sel.hc (pCons Sel.hc pNil))) (val_load tt_ok rfl (List.Mem.head _) rfl) rfl ?_
      refine k_two (i := 3) (j := 23) (t1 := [4]) (t2 := [24, 3, 4, 7, 8, 11, 12, 15, 16, 25, 26]) (by kernel_rfl) (by kernel_rfl) (by kernel_rfl) (by kernel_rfl) ?_ ?_
      · replace h := bsome h; obtain ⟨v29, x29, h⟩ := h
        refine k_cqf rfl rfl Tryd.call86 rfl rfl rfl (q_pf (k_hindcastref08_signed x29) (fun _ _ => trivial)) rfl (pSub (pCons Sel.hc (pCons Sel.hc pNil))) ?_
        replace h := bsome h; obtain ⟨v30, x30, h⟩ := h
        refine k_val (v := .string ⟨v30.toArray⟩) rfl rfl rfl (pSub (pCons Sel.hc (pCons Sel.hc pNil))) (val_cat tt_ok rfl rfl x30) rfl ?_
        refine k_two (i := 7) (j := 23) (t1 := [8]) (t2 := [24, 7, 8, 11, 12, 15, 16, 25, 26]) (by kernel_rfl) (by kernel_rfl) (by kernel_rfl) (by kernel_rfl) ?_ ?_
        · replace h := bsome h; obtain ⟨v33, x33, h⟩ := h
          refine k_cqf rfl rfl Tryd.call86 rfl rfl rfl (q_pf (k_hindcastref08_signed x33) (fun _ _ => trivial)) rfl (pSub (pCons Sel.hc (pCons Sel.hc pNil))) ?_
          replace h := bsome h; obtain ⟨v34, x34, h⟩ := h
          refine k_val (v := .string ⟨v34.toArray⟩) rfl rfl rfl (pSub (pCons Sel.hc (pCons Sel.hc pNil))) (val_cat tt_ok rfl rfl x34) rfl ?_
          refine k_two (i := 11) (j := 23) (t1 := [12]) (t2 := [24, 11, 12, 15, 16, 25, 26]) (by kernel_rfl) (by kernel_rfl) (by kernel_rfl) (by kernel_rfl) ?_ ?_
          · replace h := bsome h; obtain ⟨v37, x37, h⟩ := h
            refine k_cqf rfl rfl Tryd.call86 rfl rfl rfl (q_pf (k_hindcastref08_signed x37) (fun _ _ => trivial)) rfl (pSub (pCons Sel.hc (pCons Sel.hc pNil))) ?_
            replace h := bsome h; obtain ⟨v38, x38, h⟩ := h
            refine k_val (v := .string ⟨v38.toArray⟩) rfl rfl rfl (pSub (pCons Sel.hc (pCons Sel.hc pNil))) (val_cat tt_ok rfl rfl x38) rfl ?_
            refine k_two (i := 15) (j := 23) (t1 := [16, 23, 24, 25, 26]) (t2 := [24, 15, 16, 25, 26]) (by kernel_rfl) (by kernel_rfl) (by kernel_rfl) (by kernel_rfl) ?_ ?_
            · replace h := bsome h; obtain ⟨v41, x41, h⟩ := h
              refine k_cqf rfl rfl Tryd.call86 rfl rfl rfl (q_pf (k_hindcastref08_signed x41) (fun _ _ => trivial)) rfl (pSub (pCons Sel.hc (pCons Sel.hc pNil))) ?_
              replace h := bsome h; obtain ⟨v42, x42, h⟩ := h
              refine k_val (v := .string ⟨v42.toArray⟩) rfl rfl rfl (pSub (pCons Sel.hc (pCons Sel.hc pNil))) (val_cat tt_ok rfl rfl x42) rfl ?_
              refine k_chg rfl rfl rfl (chg_bsv (enc := (e1 .u8)) (xs := ([p0.Players.2.Health, p0.Players.2.Cool, p0.Players.2.Face] : List Int)) tt_ok rfl rfl rfl rfl rfl rfl rfl rfl (e1_len _)) rfl (.inr (by rintro _ _ ⟨_, _, _, _, rfl, _, _, rfl⟩; exact ⟨_, (pCons (Sel.sa Sel.hc) (pCons (Sel.sa Sel.hc) pNil))⟩)) ?_
              rintro _ _ ⟨a49, n49_, c49, B49, rfl, N49, V49, rfl⟩
              refine k_ls (Ls' := (B49 ++ (⟨b5, [.int .i32 p0.Players.2.X, .int .i32 p0.Players.2.Y, .int .i32 p0.Players.2.VX, .int .i32 p0.Players.2.VY, .int .u8 p0.Players.2.Health, .int .u8 p0.Players.2.Cool, .int .u8 p0.Players.2.Face], 35, (0, 0)⟩ :: (⟨b1, [.int .u64 p0.Frame, .int .u64 p0.Seed, .int .i32 p0.Players.1.X, .int .i32 p0.Players.1.Y, .int .i32 p0.Players.1.VX, .int .i32 p0.Players.1.VY, .int .u8 p0.Players.1.Health, .int .u8 p0.Players.1.Cool, .int .u8 p0.Players.1.Face, .int .i32 p0.Players.2.X, .int .i32 p0.Players.2.Y, .int .i32 p0.Players.2.VX, .int .i32 p0.Players.2.VY, .int .u8 p0.Players.2.Health, .int .u8 p0.Players.2.Cool, .int .u8 p0.Players.2.Face, .slice p0a0 p0n0 p0c0, .int .u16 p0.Score.1, .int .u16 p0.Score.2], 41, (0, 0)⟩ :: [])))) (pSub (pCons (Sel.sa Sel.hc) (pCons (Sel.sa Sel.hc) pNil))) ?_
              refine k_val (v := .string ⟨(toB ([p0.Players.2.Health, p0.Players.2.Cool, p0.Players.2.Face] : List Int)).toArray⟩) rfl rfl rfl (pSub (pApp Sel.ha (pCons Sel.hc (pCons Sel.hc pNil)))) (val_b2s (xs := ([p0.Players.2.Health, p0.Players.2.Cool, p0.Players.2.Face] : List Int)) tt_ok rfl rfl rfl rfl N49 (Rds.of_vec V49) ⟨_, Sel.ha⟩) rfl ?_
              replace h := bsome h; obtain ⟨v51, x51, h⟩ := h
              refine k_val (v := .string ⟨v51.toArray⟩) rfl rfl rfl (pSub (pApp Sel.ha (pCons Sel.hc (pCons Sel.hc pNil)))) (val_cat tt_ok rfl rfl x51) rfl ?_
              refine k_val rfl rfl rfl (pSub (pApp Sel.ha (pCons Sel.hc (pCons Sel.hc pNil)))) (stepV_ok tt_ok rfl) rfl ?_
              refine k_end (by kernel_rfl) ?_
              refine wx_block (wx_then (wc_region ?_))
              refine wl_pure tt_ok rfl rfl ?_
              refine wl_pure (v := .int .i64 (IntKind.wrap .i64 (j17_4 + (1 : Int)))) tt_ok rfl rfl ?_
              refine wl_pure tt_ok rfl rfl ?_
              refine wl_nil ?_
              exact wx_round m17 (Nat.lt_succ_self m17) ⟨v51, (IntKind.wrap .i64 (j17_4 + (1 : Int))), h, rfl, rfl⟩ (agree_cons rfl (agree_cons rfl (agree_cons rfl (agree_cons rfl agree_nil)))) (pSub (pCons (Sel.sa (Sel.sc Sel.hc)) pNil))
            refine k_chgf rfl rfl (chg_bsv (enc := (e1 .u8)) (xs := ([p0.Players.2.Health, p0.Players.2.Cool, p0.Players.2.Face] : List Int)) tt_ok rfl rfl rfl rfl rfl rfl rfl rfl (e1_len _)) rfl (.inr (by rintro _ _ ⟨_, _, _, _, rfl, _, _, rfl⟩; exact ⟨_, (pCons (Sel.sa Sel.hc) (pCons (Sel.sa Sel.hc) pNil))⟩)) ?_
            rintro _ _ ⟨a49, n49_, c49, B49, rfl, N49, V49, rfl⟩
            refine k_ls (Ls' := (B49 ++ (⟨b5, [.int .i32 p0.Players.2.X, .int .i32 p0.Players.2.Y, .int .i32 p0.Players.2.VX, .int .i32 p0.Players.2.VY, .int .u8 p0.Players.2.Health, .int .u8 p0.Players.2.Cool, .int .u8 p0.Players.2.Face], 35, (0, 0)⟩ :: (⟨b1, [.int .u64 p0.Frame, .int .u64 p0.Seed, .int .i32 p0.Players.1.X, .int .i32 p0.Players.1.Y, .int .i32 p0.Players.1.VX, .int .i32 p0.Players.1.VY, .int .u8 p0.Players.1.Health, .int .u8 p0.Players.1.Cool, .int .u8 p0.Players.1.Face, .int .i32 p0.Players.2.X, .int .i32 p0.Players.2.Y, .int .i32 p0.Players.2.VX, .int .i32 p0.Players.2.VY, .int .u8 p0.Players.2.Health, .int .u8 p0.Players.2.Cool, .int .u8 p0.Players.2.Face, .slice p0a0 p0n0 p0c0, .int .u16 p0.Score.1, .int .u16 p0.Score.2], 41, (0, 0)⟩ :: [])))) (pSub (pCons (Sel.sa Sel.hc) (pCons (Sel.sa Sel.hc) pNil))) ?_
            refine k_val (v := .string ⟨(toB ([p0.Players.2.Health, p0.Players.2.Cool, p0.Players.2.Face] : List Int)).toArray⟩) rfl rfl rfl (pSub (pApp Sel.ha (pCons Sel.hc (pCons Sel.hc pNil)))) (val_b2s (xs := ([p0.Players.2.Health, p0.Players.2.Cool, p0.Players.2.Face] : List Int)) tt_ok rfl rfl rfl rfl N49 (Rds.of_vec V49) ⟨_, Sel.ha⟩) rfl ?_
            replace h := bsome h; obtain ⟨v41, x41, h⟩ := h
            refine k_cq rfl rfl rfl Tryd.call86 rfl rfl rfl (q_pf (k_hindcastref08_signed x41) (fun _ _ => trivial)) rfl (pSub (pApp Sel.ha (pCons Sel.hc (pCons Sel.hc pNil)))) ?_
            replace h := bsome h; obtain ⟨v42, x42, h⟩ := h
            refine k_val (v := .string ⟨v42.toArray⟩) rfl rfl rfl (pSub (pApp Sel.ha (pCons Sel.hc (pCons Sel.hc pNil)))) (val_cat tt_ok rfl rfl x42) rfl ?_
            replace h := bsome h; obtain ⟨v51, x51, h⟩ := h
            refine k_val (v := .string ⟨v51.toArray⟩) rfl rfl rfl (pSub (pApp Sel.ha (pCons Sel.hc (pCons Sel.hc pNil)))) (val_cat tt_ok rfl rfl x51) rfl ?_
            refine k_val rfl rfl rfl (pSub (pApp Sel.ha (pCons Sel.hc (pCons Sel.hc pNil)))) (stepV_ok tt_ok rfl) rfl ?_
            refine k_end (by kernel_rfl) ?_
            refine wx_block (wx_then (wc_region ?_))
            refine wl_pure tt_ok rfl rfl ?_
            refine wl_pure (v := .int .i64 (IntKind.wrap .i64 (j17_4 + (1 : Int)))) tt_ok rfl rfl ?_
            refine wl_pure tt_ok rfl rfl ?_
            refine wl_nil ?_
            exact wx_round m17 (Nat.lt_succ_self m17) ⟨v51, (IntKind.wrap .i64 (j17_4 + (1 : Int))), h, rfl, rfl⟩ (agree_cons rfl (agree_cons rfl (agree_cons rfl (agree_cons rfl agree_nil)))) (pSub (pCons (Sel.sa (Sel.sc Sel.hc)) pNil))
          refine k_chgf rfl rfl (chg_bsv (enc := (e1 .u8)) (xs := ([p0.Players.2.Health, p0.Players.2.Cool, p0.Players.2.Face] : List Int)) tt_ok rfl rfl rfl rfl rfl rfl rfl rfl (e1_len _)) rfl (.inr (by rintro _ _ ⟨_, _, _, _, rfl, _, _, rfl⟩; exact ⟨_, (pCons (Sel.sa Sel.hc) (pCons (Sel.sa Sel.hc) pNil))⟩)) ?_
          rintro _ _ ⟨a49, n49_, c49, B49, rfl, N49, V49, rfl⟩
          refine k_ls (Ls' := (B49 ++ (⟨b5, [.int .i32 p0.Players.2.X, .int .i32 p0.Players.2.Y, .int .i32 p0.Players.2.VX, .int .i32 p0.Players.2.VY, .int .u8 p0.Players.2.Health, .int .u8 p0.Players.2.Cool, .int .u8 p0.Players.2.Face], 35, (0, 0)⟩ :: (⟨b1, [.int .u64 p0.Frame, .int .u64 p0.Seed, .int .i32 p0.Players.1.X, .int .i32 p0.Players.1.Y, .int .i32 p0.Players.1.VX, .int .i32 p0.Players.1.VY, .int .u8 p0.Players.1.Health, .int .u8 p0.Players.1.Cool, .int .u8 p0.Players.1.Face, .int .i32 p0.Players.2.X, .int .i32 p0.Players.2.Y, .int .i32 p0.Players.2.VX, .int .i32 p0.Players.2.VY, .int .u8 p0.Players.2.Health, .int .u8 p0.Players.2.Cool, .int .u8 p0.Players.2.Face, .slice p0a0 p0n0 p0c0, .int .u16 p0.Score.1, .int .u16 p0.Score.2], 41, (0, 0)⟩ :: [])))) (pSub (pCons (Sel.sa Sel.hc) (pCons (Sel.sa Sel.hc) pNil))) ?_
          refine k_val (v := .string ⟨(toB ([p0.Players.2.Health, p0.Players.2.Cool, p0.Players.2.Face] : List Int)).toArray⟩) rfl rfl rfl (pSub (pApp Sel.ha (pCons Sel.hc (pCons Sel.hc pNil)))) (val_b2s (xs := ([p0.Players.2.Health, p0.Players.2.Cool, p0.Players.2.Face] : List Int)) tt_ok rfl rfl rfl rfl N49 (Rds.of_vec V49) ⟨_, Sel.ha⟩) rfl ?_
          replace h := bsome h; obtain ⟨v37, x37, h⟩ := h
          refine k_cq rfl rfl rfl Tryd.call86 rfl rfl rfl (q_pf (k_hindcastref08_signed x37) (fun _ _ => trivial)) rfl (pSub (pApp Sel.ha (pCons Sel.hc (pCons Sel.hc pNil)))) ?_
          replace h := bsome h; obtain ⟨v38, x38, h⟩ := h
          refine k_val (v := .string ⟨v38.toArray⟩) rfl rfl rfl (pSub (pApp Sel.ha (pCons Sel.hc (pCons Sel.hc pNil)))) (val_cat tt_ok rfl rfl x38) rfl ?_
          replace h := bsome h; obtain ⟨v41, x41, h⟩ := h
          refine k_cq rfl rfl rfl Tryd.call86 rfl rfl rfl (q_pf (k_hindcastref08_signed x41) (fun _ _ => trivial)) rfl (pSub (pApp Sel.ha (pCons Sel.hc (pCons Sel.hc pNil)))) ?_
          replace h := bsome h; obtain ⟨v42, x42, h⟩ := h
          refine k_val (v := .string ⟨v42.toArray⟩) rfl rfl rfl (pSub (pApp Sel.ha (pCons Sel.hc (pCons Sel.hc pNil)))) (val_cat tt_ok rfl rfl x42) rfl ?_
          replace h := bsome h; obtain ⟨v51, x51, h⟩ := h
          refine k_val (v := .string ⟨v51.toArray⟩) rfl rfl rfl (pSub (pApp Sel.ha (pCons Sel.hc (pCons Sel.hc pNil)))) (val_cat tt_ok rfl rfl x51) rfl ?_
          refine k_val rfl rfl rfl (pSub (pApp Sel.ha (pCons Sel.hc (pCons Sel.hc pNil)))) (stepV_ok tt_ok rfl) rfl ?_
          refine k_end (by kernel_rfl) ?_
          refine wx_block (wx_then (wc_region ?_))
          refine wl_pure tt_ok rfl rfl ?_
          refine wl_pure (v := .int .i64 (IntKind.wrap .i64 (j17_4 + (1 : Int)))) tt_ok rfl rfl ?_
          refine wl_pure tt_ok rfl rfl ?_
          refine wl_nil ?_
          exact wx_round m17 (Nat.lt_succ_self m17) ⟨v51, (IntKind.wrap .i64 (j17_4 + (1 : Int))), h, rfl, rfl⟩ (agree_cons rfl (agree_cons rfl (agree_cons rfl (agree_cons rfl agree_nil)))) (pSub (pCons (Sel.sa (Sel.sc Sel.hc)) pNil))
        refine k_chgf rfl rfl (chg_bsv (enc := (e1 .u8)) (xs := ([p0.Players.2.Health, p0.Players.2.Cool, p0.Players.2.Face] : List Int)) tt_ok rfl rfl rfl rfl rfl rfl rfl rfl (e1_len _)) rfl (.inr (by rintro _ _ ⟨_, _, _, _, rfl, _, _, rfl⟩; exact ⟨_, (pCons (Sel.sa Sel.hc) (pCons (Sel.sa Sel.hc) pNil))⟩)) ?_
        rintro _ _ ⟨a49, n49_, c49, B49, rfl, N49, V49, rfl⟩
        refine k_ls (Ls' := (B49 ++ (⟨b5, [.int .i32 p0.Players.2.X, .int .i32 p0.Players.2.Y, .int .i32 p0.Players.2.VX, .int .i32 p0.Players.2.VY, .int .u8 p0.Players.2.Health, .int .u8 p0.Players.2.Cool, .int .u8 p0.Players.2.Face], 35, (0, 0)⟩ :: (⟨b1, [.int .u64 p0.Frame, .int .u64 p0.Seed, .int .i32 p0.Players.1.X, .int .i32 p0.Players.1.Y, .int .i32 p0.Players.1.VX, .int .i32 p0.Players.1.VY, .int .u8 p0.Players.1.Health, .int .u8 p0.Players.1.Cool, .int .u8 p0.Players.1.Face, .int .i32 p0.Players.2.X, .int .i32 p0.Players.2.Y, .int .i32 p0.Players.2.VX, .int .i32 p0.Players.2.VY, .int .u8 p0.Players.2.Health, .int .u8 p0.Players.2.Cool, .int .u8 p0.Players.2.Face, .slice p0a0 p0n0 p0c0, .int .u16 p0.Score.1, .int .u16 p0.Score.2], 41, (0, 0)⟩ :: [])))) (pSub (pCons (Sel.sa Sel.hc) (pCons (Sel.sa Sel.hc) pNil))) ?_
        refine k_val (v := .string ⟨(toB ([p0.Players.2.Health, p0.Players.2.Cool, p0.Players.2.Face] : List Int)).toArray⟩) rfl rfl rfl (pSub (pApp Sel.ha (pCons Sel.hc (pCons Sel.hc pNil)))) (val_b2s (xs := ([p0.Players.2.Health, p0.Players.2.Cool, p0.Players.2.Face] : List Int)) tt_ok rfl rfl rfl rfl N49 (Rds.of_vec V49) ⟨_, Sel.ha⟩) rfl ?_
        replace h := bsome h; obtain ⟨v33, x33, h⟩ := h
        refine k_cq rfl rfl rfl Tryd.call86 rfl rfl rfl (q_pf (k_hindcastref08_signed x33) (fun _ _ => trivial)) rfl (pSub (pApp Sel.ha (pCons Sel.hc (pCons Sel.hc pNil)))) ?_
        replace h := bsome h; obtain ⟨v34, x34, h⟩ := h
        refine k_val (v := .string ⟨v34.toArray⟩) rfl rfl rfl (pSub (pApp Sel.ha (pCons Sel.hc (pCons Sel.hc pNil)))) (val_cat tt_ok rfl rfl x34) rfl ?_
        replace h := bsome h; obtain ⟨v37, x37, h⟩ := h
        refine k_cq rfl rfl rfl Tryd.call86 rfl rfl rfl (q_pf (k_hindcastref08_signed x37) (fun _ _ => trivial)) rfl (pSub (pApp Sel.ha (pCons Sel.hc (pCons Sel.hc pNil)))) ?_
        replace h := bsome h; obtain ⟨v38, x38, h⟩ := h
        refine k_val (v := .string ⟨v38.toArray⟩) rfl rfl rfl (pSub (pApp Sel.ha (pCons Sel.hc (pCons Sel.hc pNil)))) (val_cat tt_ok rfl rfl x38) rfl ?_
        replace h := bsome h; obtain ⟨v41, x41, h⟩ := h
        refine k_cq rfl rfl rfl Tryd.call86 rfl rfl rfl (q_pf (k_hindcastref08_signed x41) (fun _ _ => trivial)) rfl (pSub (pApp Sel.ha (pCons Sel.hc (pCons Sel.hc pNil)))) ?_
        replace h := bsome h; obtain ⟨v42, x42, h⟩ := h
        refine k_val (v := .string ⟨v42.toArray⟩) rfl rfl rfl (pSub (pApp Sel.ha (pCons Sel.hc (pCons Sel.hc pNil)))) (val_cat tt_ok rfl rfl x42) rfl ?_
        replace h := bsome h; obtain ⟨v51, x51, h⟩ := h
        refine k_val (v := .string ⟨v51.toArray⟩) rfl rfl rfl (pSub (pApp Sel.ha (pCons Sel.hc (pCons Sel.hc pNil)))) (val_cat tt_ok rfl rfl x51) rfl ?_
        refine k_val rfl rfl rfl (pSub (pApp Sel.ha (pCons Sel.hc (pCons Sel.hc pNil)))) (stepV_ok tt_ok rfl) rfl ?_
        refine k_end (by kernel_rfl) ?_
        refine wx_block (wx_then (wc_region ?_))
        refine wl_pure tt_ok rfl rfl ?_
        refine wl_pure (v := .int .i64 (IntKind.wrap .i64 (j17_4 + (1 : Int)))) tt_ok rfl rfl ?_
        refine wl_pure tt_ok rfl rfl ?_
        refine wl_nil ?_
        exact wx_round m17 (Nat.lt_succ_self m17) ⟨v51, (IntKind.wrap .i64 (j17_4 + (1 : Int))), h, rfl, rfl⟩ (agree_cons rfl (agree_cons rfl (agree_cons rfl (agree_cons rfl agree_nil)))) (pSub (pCons (Sel.sa (Sel.sc Sel.hc)) pNil))
      refine k_chgf rfl rfl (chg_bsv (enc := (e1 .u8)) (xs := ([p0.Players.2.Health, p0.Players.2.Cool, p0.Players.2.Face] : List Int)) tt_ok rfl rfl rfl rfl rfl rfl rfl rfl (e1_len _)) rfl (.inr (by rintro _ _ ⟨_, _, _, _, rfl, _, _, rfl⟩; exact ⟨_, (pCons (Sel.sa Sel.hc) (pCons (Sel.sa Sel.hc) pNil))⟩)) ?_
      rintro _ _ ⟨a49, n49_, c49, B49, rfl, N49, V49, rfl⟩
      refine k_ls (Ls' := (B49 ++ (⟨b5, [.int .i32 p0.Players.2.X, .int .i32 p0.Players.2.Y, .int .i32 p0.Players.2.VX, .int .i32 p0.Players.2.VY, .int .u8 p0.Players.2.Health, .int .u8 p0.Players.2.Cool, .int .u8 p0.Players.2.Face], 35, (0, 0)⟩ :: (⟨b1, [.int .u64 p0.Frame, .int .u64 p0.Seed, .int .i32 p0.Players.1.X, .int .i32 p0.Players.1.Y, .int .i32 p0.Players.1.VX, .int .i32 p0.Players.1.VY, .int .u8 p0.Players.1.Health, .int .u8 p0.Players.1.Cool, .int .u8 p0.Players.1.Face, .int .i32 p0.Players.2.X, .int .i32 p0.Players.2.Y, .int .i32 p0.Players.2.VX, .int .i32 p0.Players.2.VY, .int .u8 p0.Players.2.Health, .int .u8 p0.Players.2.Cool, .int .u8 p0.Players.2.Face, .slice p0a0 p0n0 p0c0, .int .u16 p0.Score.1, .int .u16 p0.Score.2], 41, (0, 0)⟩ :: [])))) (pSub (pCons (Sel.sa Sel.hc) (pCons (Sel.sa Sel.hc) pNil))) ?_
      refine k_val (v := .string ⟨(toB ([p0.Players.2.Health, p0.Players.2.Cool, p0.Players.2.Face] : List Int)).toArray⟩) rfl rfl rfl (pSub (pApp Sel.ha (pCons Sel.hc (pCons Sel.hc pNil)))) (val_b2s (xs := ([p0.Players.2.Health, p0.Players.2.Cool, p0.Players.2.Face] : List Int)) tt_ok rfl rfl rfl rfl N49 (Rds.of_vec V49) ⟨_, Sel.ha⟩) rfl ?_
      replace h := bsome h; obtain ⟨v29, x29, h⟩ := h
      refine k_cq rfl rfl rfl Tryd.call86 rfl rfl rfl (q_pf (k_hindcastref08_signed x29) (fun _ _ => trivial)) rfl (pSub (pApp Sel.ha (pCons Sel.hc (pCons Sel.hc pNil)))) ?_
      replace h := bsome h; obtain ⟨v30, x30, h⟩ := h
      refine k_val (v := .string ⟨v30.toArray⟩) rfl rfl rfl (pSub (pApp Sel.ha (pCons Sel.hc (pCons Sel.hc pNil)))) (val_cat tt_ok rfl rfl x30) rfl ?_
      replace h := bsome h; obtain ⟨v33, x33, h⟩ := h
      refine k_cq rfl rfl rfl Tryd.call86 rfl rfl rfl (q_pf (k_hindcastref08_signed x33) (fun _ _ => trivial)) rfl (pSub (pApp Sel.ha (pCons Sel.hc (pCons Sel.hc pNil)))) ?_
      replace h := bsome h; obtain ⟨v34, x34, h⟩ := h
      refine k_val (v := .string ⟨v34.toArray⟩) rfl rfl rfl (pSub (pApp Sel.ha (pCons Sel.hc (pCons Sel.hc pNil)))) (val_cat tt_ok rfl rfl x34) rfl ?_
      replace h := bsome h; obtain ⟨v37, x37, h⟩ := h
      refine k_cq rfl rfl rfl Tryd.call86 rfl rfl rfl (q_pf (k_hindcastref08_signed x37) (fun _ _ => trivial)) rfl (pSub (pApp Sel.ha (pCons Sel.hc (pCons Sel.hc pNil)))) ?_
      replace h := bsome h; obtain ⟨v38, x38, h⟩ := h
      refine k_val (v := .string ⟨v38.toArray⟩) rfl rfl rfl (pSub (pApp Sel.ha (pCons Sel.hc (pCons Sel.hc pNil)))) (val_cat tt_ok rfl rfl x38) rfl ?_
      replace h := bsome h; obtain ⟨v41, x41, h⟩ := h
      refine k_cq rfl rfl rfl Tryd.call86 rfl rfl rfl (q_pf (k_hindcastref08_signed x41) (fun _ _ => trivial)) rfl (pSub (pApp Sel.ha (pCons Sel.hc (pCons Sel.hc pNil)))) ?_
      replace h := bsome h; obtain ⟨v42, x42, h⟩ := h
      refine k_val (v := .string ⟨v42.toArray⟩) rfl rfl rfl (pSub (pApp Sel.ha (pCons Sel.hc (pCons Sel.hc pNil)))) (val_cat tt_ok rfl rfl x42) rfl ?_
      replace h := bsome h; obtain ⟨v51, x51, h⟩ := h
      refine k_val (v := .string ⟨v51.toArray⟩) rfl rfl rfl (pSub (pApp Sel.ha (pCons Sel.hc (pCons Sel.hc pNil)))) (val_cat tt_ok rfl rfl x51) rfl ?_
      refine k_val rfl rfl rfl (pSub (pApp Sel.ha (pCons Sel.hc (pCons Sel.hc pNil)))) (stepV_ok tt_ok rfl) rfl ?_
      refine k_end (by kernel_rfl) ?_
      refine wx_block (wx_then (wc_region ?_))
      refine wl_pure tt_ok rfl rfl ?_
      refine wl_pure (v := .int .i64 (IntKind.wrap .i64 (j17_4 + (1 : Int)))) tt_ok rfl rfl ?_
      refine wl_pure tt_ok rfl rfl ?_
      refine wl_nil ?_
      exact wx_round m17 (Nat.lt_succ_self m17) ⟨v51, (IntKind.wrap .i64 (j17_4 + (1 : Int))), h, rfl, rfl⟩ (agree_cons rfl (agree_cons rfl (agree_cons rfl (agree_cons rfl agree_nil)))) (pSub (pCons (Sel.sa (Sel.sc Sel.hc)) pNil))
    replace h := cf hx241 h
    cases h
  replace h := cf hc h
  refine wc_exit (wx_then_exit ?_)
  simp only [Option.some.injEq] at h
  obtain rfl := h
  have h := hl17; clear hl17; try dsimp only [orE_l, orE_r] at h
  refine wx_then_exit (wx_block_exit (wx_then (wc_seq (wc_region ?_))))
  refine wl_pure tt_ok rfl rfl ?_
  refine wl_pure (v := .pointer (some ⟨b1, 16, none⟩)) tt_ok rfl rfl ?_
  refine wl_val (v := .slice p0a0 p0n0 p0c0) (val_load tt_ok rfl (List.Mem.head _) rfl) rfl ?_
  refine wl_val (v := .int .i64 (p0.Shots.length : Int)) (val_len tt_ok rfl rfl p0N0) rfl ?_
  refine wl_pure (v := .int .u64 (IntKind.wrap .u64 (p0.Shots.length : Int))) tt_ok rfl rfl ?_
  replace h := bsome h; obtain ⟨v57, x57, h⟩ := h
  refine wl_cq Tryd.call87 rfl rfl rfl (q_pf (k_hindcastref02_Var x57) (fun _ _ => trivial)) rfl ?_
  replace h := bsome h; obtain ⟨v58, x58, h⟩ := h
  refine wl_val (v := .string ⟨v58.toArray⟩) (val_cat tt_ok rfl rfl x58) rfl ?_
  refine wl_pure tt_ok rfl rfl ?_
  refine wl_nil (wx_then (wc_seq (wc_seq (wc_region ?_))))
  refine wl_pure tt_ok rfl rfl ?_
  refine wl_nil (wx_then (wc_block ?_))
  replace h := bsome h; obtain ⟨l36_3, h, hl36⟩ := h
  refine wc_loop (fun m E L => ∃ (j36_3 : (List UInt8)) (j36_6 : Int), m_hindcastref08_Put_L35 F p0 m j36_3 j36_6 = some l36_3 ∧ E = [(1, .pointer (some ⟨b1, 0, none⟩)), (2, .string ⟨([] : List UInt8).toArray⟩), (3, .string ⟨j36_3.toArray⟩), (6, .int .i64 j36_6)] ∧ L = (⟨b1, [.int .u64 p0.Frame, .int .u64 p0.Seed, .int .i32 p0.Players.1.X, .int .i32 p0.Players.1.Y, .int .i32 p0.Players.1.VX, .int .i32 p0.Players.1.VY, .int .u8 p0.Players.1.Health, .int .u8 p0.Players.1.Cool, .int .u8 p0.Players.1.Face, .int .i32 p0.Players.2.X, .int .i32 p0.Players.2.Y, .int .i32 p0.Players.2.VX, .int .i32 p0.Players.2.VY, .int .u8 p0.Players.2.Health, .int .u8 p0.Players.2.Cool, .int .u8 p0.Players.2.Face, .slice p0a0 p0n0 p0c0, .int .u16 p0.Score.1, .int .u16 p0.Score.2], 41, (0, 0)⟩ :: [])) F ⟨v58, (0 : Int), h, rfl, rfl⟩ (agree_cons rfl (agree_cons rfl (agree_cons rfl (agree_cons rfl agree_nil)))) (pSub (pCons Sel.hc pNil)) ?_
  clear h
  rintro m36 _ _ ⟨j36_3, j36_6, h, rfl, rfl⟩
  rcases m36 with _ | m36
  · rw [m_hindcastref08_Put_L35.eq_1] at h; cases h
  rw [m_hindcastref08_Put_L35.eq_2] at h
  refine wc_seq (wc_seq (wc_region ?_))
  refine wl_pure tt_ok rfl rfl ?_
  refine wl_pure (v := .pointer (some ⟨b1, 16, none⟩)) tt_ok rfl rfl ?_
  refine wl_val (v := .slice p0a0 p0n0 p0c0) (val_load tt_ok rfl (List.Mem.head _) rfl) rfl ?_
  refine wl_val (v := .int .i64 (p0.Shots.length : Int)) (val_len tt_ok rfl rfl p0N0) rfl ?_
  refine wl_pure (v := .bool (decide (j36_6 < (p0.Shots.length : Int)))) tt_ok rfl rfl ?_
  refine wl_nil (wx_then ?_)
  refine wc_cond rfl (fun hc => ?_) (fun hc => ?_)
  · replace h := ct hc h
    refine wc_skip (wx_then (wc_seq (wc_block (wc_seq (wc_region ?_)))))
    refine wl_pure (v := .pointer (some ⟨b1, 16, none⟩)) tt_ok rfl rfl ?_
    refine wl_val (v := .slice p0a0 p0n0 p0c0) (val_load tt_ok rfl (List.Mem.head _) rfl) rfl ?_
    refine wl_pure tt_ok rfl rfl ?_
    replace h := bsome h; obtain ⟨v69, x69, h⟩ := h
    refine wl_val (v := .pointer (some ((adOf p0a0).add (j36_6.toNat * 6 + 0)))) (val_ix (enc := c_T_api_Shot) tt_ok rfl rfl rfl rfl p0N0 p0S0 c_T_api_Shot_len rfl x69) rfl ?_
    refine wl_val (v := .agg #[.int .i32 v69.X, .int .i32 v69.Y, .int .i32 v69.VX, .int .i32 v69.VY, .int .u8 v69.Owner, .int .u8 v69.Life]) (val_le (enc := c_T_api_Shot) (xs := p0.Shots) tt_ok rfl p0S0 rsub_nil c_T_api_Shot_len x69 rfl) rfl ?_
    refine wl_alloc tt_ok rfl rfl (fun b7 => ?_)
    apply wl_store tt_ok; rfl; exact Upd.here; rfl; rfl; rfl; rfl; rfl; rfl
    refine wl_nil (wx_then ?_)
    refine wc_k2 (Ls := (⟨b7, [.int .i32 v69.X, .int .i32 v69.Y, .int .i32 v69.VX, .int .i32 v69.VY, .int .u8 v69.Owner, .int .u8 v69.Life], 87, (0, 0)⟩ :: (⟨b1, [.int .u64 p0.Frame, .int .u64 p0.Seed, .int .i32 p0.Players.1.X, .int .i32 p0.Players.1.Y, .int .i32 p0.Players.1.VX, .int .i32 p0.Players.1.VY, .int .u8 p0.Players.1.Health, .int .u8 p0.Players.1.Cool, .int .u8 p0.Players.1.Face, .int .i32 p0.Players.2.X, .int .i32 p0.Players.2.Y, .int .i32 p0.Players.2.VX, .int .i32 p0.Players.2.VY, .int .u8 p0.Players.2.Health, .int .u8 p0.Players.2.Cool, .int .u8 p0.Players.2.Face, .slice p0a0 p0n0 p0c0, .int .u16 p0.Score.1, .int .u16 p0.Score.2], 41, (0, 0)⟩ :: []))) [3, 7, 11, 15, 21] [] [0, 0, 2, 6, 15, 0, 32, 110, 255, 0, 512, 1774, 4095, 0, 8192, 28398, 65535, 0, 131072, 0, 524288, 1966080, 4063232, 8388607, 16777215] [0, 1, 2, 5, 6, 9, 10, 13, 14, 17, 18, 19, 20] (by kernel_rfl) (by kernel_rfl) (by kernel_rfl) ?_
    refine k_val rfl rfl rfl (pSub (pCons Sel.hc (pCons Sel.hc pNil))) (stepV_ok tt_ok rfl) rfl ?_
    refine k_val (v := .pointer (some ⟨b7, 0, none⟩)) rfl rfl rfl (pSub (pCons Sel.hc (pCons Sel.hc pNil))) (stepV_ok tt_ok rfl) rfl ?_
    refine k_val (v := .int .i32 v69.X) rfl rfl rfl (pSub (pCons Sel.hc (pCons Sel.hc pNil))) (val_load tt_ok rfl (List.Mem.head _) rfl) rfl ?_
    refine k_val (v := .pointer (some ⟨b7, 1, none⟩)) rfl rfl rfl (pSub (pCons Sel.hc (pCons Sel.hc pNil))) (stepV_ok tt_ok rfl) rfl ?_
    refine k_val (v := .int .i32 v69.Y) rfl rfl rfl (pSub (pCons Sel.hc (pCons Sel.hc pNil))) (val_load tt_ok rfl (List.Mem.head _) rfl) rfl ?_
    refine k_val (v := .pointer (some ⟨b7, 2, none⟩)) rfl rfl rfl (pSub (pCons Sel.hc (pCons Sel.hc pNil))) (stepV_ok tt_ok rfl) rfl ?_
    refine k_val (v := .int .i32 v69.VX) rfl rfl rfl (pSub (pCons Sel.hc (pCons Sel.hc pNil))) (val_load tt_ok rfl (List.Mem.head _) rfl) rfl ?_
    refine k_val (v := .pointer (some ⟨b7, 3, none⟩)) rfl rfl rfl (pSub (pCons Sel.hc (pCons Sel.hc pNil))) (stepV_ok tt_ok rfl) rfl ?_
    refine k_val (v := .int .i32 v69.VY) rfl rfl rfl (pSub (pCons Sel.hc (pCons Sel.hc pNil))) (val_load tt_ok rfl (List.Mem.head _) rfl) rfl ?_
    refine k_val (v := .pointer (some ⟨b7, 4, none⟩)) rfl rfl rfl (pSub (pCons Sel.hc (pCons Sel.hc pNil))) (stepV_ok tt_ok rfl) rfl ?_
    refine k_val (v := .int .u8 v69.Owner) rfl rfl rfl (pSub (pCons Sel.hc (pCons Sel.hc pNil))) (val_load tt_ok rfl (List.Mem.head _) rfl) rfl ?_
    refine k_val (v := .pointer (some ⟨b7, 5, none⟩)) rfl rfl rfl (pSub (pCons Sel.hc (pCons Sel.hc pNil))) (stepV_ok tt_ok rfl) rfl ?_
    refine k_val (v := .int .u8 v69.Life) rfl rfl rfl (pSub (pCons Sel.hc (pCons Sel.hc pNil))) (val_load tt_ok rfl (List.Mem.head _) rfl) rfl ?_
    refine k_two (i := 3) (j := 21) (t1 := [4]) (t2 := [22, 3, 4, 7, 8, 11, 12, 15, 16, 23, 24]) (by kernel_rfl) (by kernel_rfl) (by kernel_rfl) (by kernel_rfl) ?_ ?_
    · replace h := bsome h; obtain ⟨v74, x74, h⟩ := h
      refine k_cqf rfl rfl Tryd.call86 rfl rfl rfl (q_pf (k_hindcastref08_signed x74) (fun _ _ => trivial)) rfl (pSub (pCons Sel.hc (pCons Sel.hc pNil))) ?_
      replace h := bsome h; obtain ⟨v75, x75, h⟩ := h
      refine k_val (v := .string ⟨v75.toArray⟩) rfl rfl rfl (pSub (pCons Sel.hc (pCons Sel.hc pNil))) (val_cat tt_ok rfl rfl x75) rfl ?_
      refine k_two (i := 7) (j := 21) (t1 := [8]) (t2 := [22, 7, 8, 11, 12, 15, 16, 23, 24]) (by kernel_rfl) (by kernel_rfl) (by kernel_rfl) (by kernel_rfl) ?_ ?_
      · replace h := bsome h; obtain ⟨v78, x78, h⟩ := h
        refine k_cqf rfl rfl Tryd.call86 rfl rfl rfl (q_pf (k_hindcastref08_signed x78) (fun _ _ => trivial)) rfl (pSub (pCons Sel.hc (pCons Sel.hc pNil))) ?_
        replace h := bsome h; obtain ⟨v79, x79, h⟩ := h
        refine k_val (v := .string ⟨v79.toArray⟩) rfl rfl rfl (pSub (pCons Sel.hc (pCons Sel.hc pNil))) (val_cat tt_ok rfl rfl x79) rfl ?_
        refine k_two (i := 11) (j := 21) (t1 := [12]) (t2 := [22, 11, 12, 15, 16, 23, 24]) (by kernel_rfl) (by kernel_rfl) (by kernel_rfl) (by kernel_rfl) ?_ ?_
        · replace h := bsome h; obtain ⟨v82, x82, h⟩ := h
          refine k_cqf rfl rfl Tryd.call86 rfl rfl rfl (q_pf (k_hindcastref08_signed x82) (fun _ _ => trivial)) rfl (pSub (pCons Sel.hc (pCons Sel.hc pNil))) ?_
          replace h := bsome h; obtain ⟨v83, x83, h⟩ := h
          refine k_val (v := .string ⟨v83.toArray⟩) rfl rfl rfl (pSub (pCons Sel.hc (pCons Sel.hc pNil))) (val_cat tt_ok rfl rfl x83) rfl ?_
          refine k_two (i := 15) (j := 21) (t1 := [16, 21, 22, 23, 24]) (t2 := [22, 15, 16, 23, 24]) (by kernel_rfl) (by kernel_rfl) (by kernel_rfl) (by kernel_rfl) ?_ ?_
          · replace h := bsome h; obtain ⟨v86, x86, h⟩ := h
            refine k_cqf rfl rfl Tryd.call86 rfl rfl rfl (q_pf (k_hindcastref08_signed x86) (fun _ _ => trivial)) rfl (pSub (pCons Sel.hc (pCons Sel.hc pNil))) ?_
            replace h := bsome h; obtain ⟨v87, x87, h⟩ := h
            refine k_val (v := .string ⟨v87.toArray⟩) rfl rfl rfl (pSub (pCons Sel.hc (pCons Sel.hc pNil))) (val_cat tt_ok rfl rfl x87) rfl ?_
            refine k_chg rfl rfl rfl (chg_bsv (enc := (e1 .u8)) (xs := ([v69.Owner, v69.Life] : List Int)) tt_ok rfl rfl rfl rfl rfl rfl rfl rfl (e1_len _)) rfl (.inr (by rintro _ _ ⟨_, _, _, _, rfl, _, _, rfl⟩; exact ⟨_, (pCons (Sel.sa Sel.hc) (pCons (Sel.sa Sel.hc) pNil))⟩)) ?_
            rintro _ _ ⟨a92, n92_, c92, B92, rfl, N92, V92, rfl⟩
            refine k_ls (Ls' := (B92 ++ (⟨b7, [.int .i32 v69.X, .int .i32 v69.Y, .int .i32 v69.VX, .int .i32 v69.VY, .int .u8 v69.Owner, .int .u8 v69.Life], 87, (0, 0)⟩ :: (⟨b1, [.int .u64 p0.Frame, .int .u64 p0.Seed, .int .i32 p0.Players.1.X, .int .i32 p0.Players.1.Y, .int .i32 p0.Players.1.VX, .int .i32 p0.Players.1.VY, .int .u8 p0.Players.1.Health, .int .u8 p0.Players.1.Cool, .int .u8 p0.Players.1.Face, .int .i32 p0.Players.2.X, .int .i32 p0.Players.2.Y, .int .i32 p0.Players.2.VX, .int .i32 p0.Players.2.VY, .int .u8 p0.Players.2.Health, .int .u8 p0.Players.2.Cool, .int .u8 p0.Players.2.Face, .slice p0a0 p0n0 p0c0, .int .u16 p0.Score.1, .int .u16 p0.Score.2], 41, (0, 0)⟩ :: [])))) (pSub (pCons (Sel.sa Sel.hc) (pCons (Sel.sa Sel.hc) pNil))) ?_
            refine k_val (v := .string ⟨(toB ([v69.Owner, v69.Life] : List Int)).toArray⟩) rfl rfl rfl (pSub (pApp Sel.ha (pCons Sel.hc (pCons Sel.hc pNil)))) (val_b2s (xs := ([v69.Owner, v69.Life] : List Int)) tt_ok rfl rfl rfl rfl N92 (Rds.of_vec V92) ⟨_, Sel.ha⟩) rfl ?_
            replace h := bsome h; obtain ⟨v94, x94, h⟩ := h
            refine k_val (v := .string ⟨v94.toArray⟩) rfl rfl rfl (pSub (pApp Sel.ha (pCons Sel.hc (pCons Sel.hc pNil)))) (val_cat tt_ok rfl rfl x94) rfl ?_
            refine k_val rfl rfl rfl (pSub (pApp Sel.ha (pCons Sel.hc (pCons Sel.hc pNil)))) (stepV_ok tt_ok rfl) rfl ?_
            refine k_end (by kernel_rfl) ?_
            refine wx_block (wx_then (wc_region ?_))
            refine wl_pure tt_ok rfl rfl ?_
            refine wl_pure (v := .int .i64 (IntKind.wrap .i64 (j36_6 + (1 : Int)))) tt_ok rfl rfl ?_
            refine wl_pure tt_ok rfl rfl ?_
            refine wl_nil ?_
            exact wx_round m36 (Nat.lt_succ_self m36) ⟨v94, (IntKind.wrap .i64 (j36_6 + (1 : Int))), h, rfl, rfl⟩ (agree_cons rfl (agree_cons rfl (agree_cons rfl (agree_cons rfl agree_nil)))) (pSub (pCons (Sel.sa (Sel.sc Sel.hc)) pNil))
          refine k_chgf rfl rfl (chg_bsv (enc := (e1 .u8)) (xs := ([v69.Owner, v69.Life] : List Int)) tt_ok rfl rfl rfl rfl rfl rfl rfl rfl (e1_len _)) rfl (.inr (by rintro _ _ ⟨_, _, _, _, rfl, _, _, rfl⟩; exact ⟨_, (pCons (Sel.sa Sel.hc) (pCons (Sel.sa Sel.hc) pNil))⟩)) ?_
          rintro _ _ ⟨a92, n92_, c92, B92, rfl, N92, V92, rfl⟩
          refine k_ls (Ls' := (B92 ++ (⟨b7, [.int .i32 v69.X, .int .i32 v69.Y, .int .i32 v69.VX, .int .i32 v69.VY, .int .u8 v69.Owner, .int .u8 v69.Life], 87, (0, 0)⟩ :: (⟨b1, [.int .u64 p0.Frame, .int .u64 p0.Seed, .int .i32 p0.Players.1.X, .int .i32 p0.Players.1.Y, .int .i32 p0.Players.1.VX, .int .i32 p0.Players.1.VY, .int .u8 p0.Players.1.Health, .int .u8 p0.Players.1.Cool, .int .u8 p0.Players.1.Face, .int .i32 p0.Players.2.X, .int .i32 p0.Players.2.Y, .int .i32 p0.Players.2.VX, .int .i32 p0.Players.2.VY, .int .u8 p0.Players.2.Health, .int .u8 p0.Players.2.Cool, .int .u8 p0.Players.2.Face, .slice p0a0 p0n0 p0c0, .int .u16 p0.Score.1, .int .u16 p0.Score.2], 41, (0, 0)⟩ :: [])))) (pSub (pCons (Sel.sa Sel.hc) (pCons (Sel.sa Sel.hc) pNil))) ?_
          refine k_val (v := .string ⟨(toB ([v69.Owner, v69.Life] : List Int)).toArray⟩) rfl rfl rfl (pSub (pApp Sel.ha (pCons Sel.hc (pCons Sel.hc pNil)))) (val_b2s (xs := ([v69.Owner, v69.Life] : List Int)) tt_ok rfl rfl rfl rfl N92 (Rds.of_vec V92) ⟨_, Sel.ha⟩) rfl ?_
          replace h := bsome h; obtain ⟨v86, x86, h⟩ := h
          refine k_cq rfl rfl rfl Tryd.call86 rfl rfl rfl (q_pf (k_hindcastref08_signed x86) (fun _ _ => trivial)) rfl (pSub (pApp Sel.ha (pCons Sel.hc (pCons Sel.hc pNil)))) ?_
          replace h := bsome h; obtain ⟨v87, x87, h⟩ := h
          refine k_val (v := .string ⟨v87.toArray⟩) rfl rfl rfl (pSub (pApp Sel.ha (pCons Sel.hc (pCons Sel.hc pNil)))) (val_cat tt_ok rfl rfl x87) rfl ?_
          replace h := bsome h; obtain ⟨v94, x94, h⟩ := h
          refine k_val (v := .string ⟨v94.toArray⟩) rfl rfl rfl (pSub (pApp Sel.ha (pCons Sel.hc (pCons Sel.hc pNil)))) (val_cat tt_ok rfl rfl x94) rfl ?_
          refine k_val rfl rfl rfl (pSub (pApp Sel.ha (pCons Sel.hc (pCons Sel.hc pNil)))) (stepV_ok tt_ok rfl) rfl ?_
          refine k_end (by kernel_rfl) ?_
          refine wx_block (wx_then (wc_region ?_))
          refine wl_pure tt_ok rfl rfl ?_
          refine wl_pure (v := .int .i64 (IntKind.wrap .i64 (j36_6 + (1 : Int)))) tt_ok rfl rfl ?_
          refine wl_pure tt_ok rfl rfl ?_
          refine wl_nil ?_
          exact wx_round m36 (Nat.lt_succ_self m36) ⟨v94, (IntKind.wrap .i64 (j36_6 + (1 : Int))), h, rfl, rfl⟩ (agree_cons rfl (agree_cons rfl (agree_cons rfl (agree_cons rfl agree_nil)))) (pSub (pCons (Sel.sa (Sel.sc Sel.hc)) pNil))
        refine k_chgf rfl rfl (chg_bsv (enc := (e1 .u8)) (xs := ([v69.Owner, v69.Life] : List Int)) tt_ok rfl rfl rfl rfl rfl rfl rfl rfl (e1_len _)) rfl (.inr (by rintro _ _ ⟨_, _, _, _, rfl, _, _, rfl⟩; exact ⟨_, (pCons (Sel.sa Sel.hc) (pCons (Sel.sa Sel.hc) pNil))⟩)) ?_
        rintro _ _ ⟨a92, n92_, c92, B92, rfl, N92, V92, rfl⟩
        refine k_ls (Ls' := (B92 ++ (⟨b7, [.int .i32 v69.X, .int .i32 v69.Y, .int .i32 v69.VX, .int .i32 v69.VY, .int .u8 v69.Owner, .int .u8 v69.Life], 87, (0, 0)⟩ :: (⟨b1, [.int .u64 p0.Frame, .int .u64 p0.Seed, .int .i32 p0.Players.1.X, .int .i32 p0.Players.1.Y, .int .i32 p0.Players.1.VX, .int .i32 p0.Players.1.VY, .int .u8 p0.Players.1.Health, .int .u8 p0.Players.1.Cool, .int .u8 p0.Players.1.Face, .int .i32 p0.Players.2.X, .int .i32 p0.Players.2.Y, .int .i32 p0.Players.2.VX, .int .i32 p0.Players.2.VY, .int .u8 p0.Players.2.Health, .int .u8 p0.Players.2.Cool, .int .u8 p0.Players.2.Face, .slice p0a0 p0n0 p0c0, .int .u16 p0.Score.1, .int .u16 p0.Score.2], 41, (0, 0)⟩ :: [])))) (pSub (pCons (Sel.sa Sel.hc) (pCons (Sel.sa Sel.hc) pNil))) ?_
        refine k_val (v := .string ⟨(toB ([v69.Owner, v69.Life] : List Int)).toArray⟩) rfl rfl rfl (pSub (pApp Sel.ha (pCons Sel.hc (pCons Sel.hc pNil)))) (val_b2s (xs := ([v69.Owner, v69.Life] : List Int)) tt_ok rfl rfl rfl rfl N92 (Rds.of_vec V92) ⟨_, Sel.ha⟩) rfl ?_
        replace h := bsome h; obtain ⟨v82, x82, h⟩ := h
        refine k_cq rfl rfl rfl Tryd.call86 rfl rfl rfl (q_pf (k_hindcastref08_signed x82) (fun _ _ => trivial)) rfl (pSub (pApp Sel.ha (pCons Sel.hc (pCons Sel.hc pNil)))) ?_
        replace h := bsome h; obtain ⟨v83, x83, h⟩ := h
        refine k_val (v := .string ⟨v83.toArray⟩) rfl rfl rfl (pSub (pApp Sel.ha (pCons Sel.hc (pCons Sel.hc pNil)))) (val_cat tt_ok rfl rfl x83) rfl ?_
        replace h := bsome h; obtain ⟨v86, x86, h⟩ := h
        refine k_cq rfl rfl rfl Tryd.call86 rfl rfl rfl (q_pf (k_hindcastref08_signed x86) (fun _ _ => trivial)) rfl (pSub (pApp Sel.ha (pCons Sel.hc (pCons Sel.hc pNil)))) ?_
        replace h := bsome h; obtain ⟨v87, x87, h⟩ := h
        refine k_val (v := .string ⟨v87.toArray⟩) rfl rfl rfl (pSub (pApp Sel.ha (pCons Sel.hc (pCons Sel.hc pNil)))) (val_cat tt_ok rfl rfl x87) rfl ?_
        replace h := bsome h; obtain ⟨v94, x94, h⟩ := h
        refine k_val (v := .string ⟨v94.toArray⟩) rfl rfl rfl (pSub (pApp Sel.ha (pCons Sel.hc (pCons Sel.hc pNil)))) (val_cat tt_ok rfl rfl x94) rfl ?_
        refine k_val rfl rfl rfl (pSub (pApp Sel.ha (pCons Sel.hc (pCons Sel.hc pNil)))) (stepV_ok tt_ok rfl) rfl ?_
        refine k_end (by kernel_rfl) ?_
        refine wx_block (wx_then (wc_region ?_))
        refine wl_pure tt_ok rfl rfl ?_
        refine wl_pure (v := .int .i64 (IntKind.wrap .i64 (j36_6 + (1 : Int)))) tt_ok rfl rfl ?_
        refine wl_pure tt_ok rfl rfl ?_
        refine wl_nil ?_
        exact wx_round m36 (Nat.lt_succ_self m36) ⟨v94, (IntKind.wrap .i64 (j36_6 + (1 : Int))), h, rfl, rfl⟩ (agree_cons rfl (agree_cons rfl (agree_cons rfl (agree_cons rfl agree_nil)))) (pSub (pCons (Sel.sa (Sel.sc Sel.hc)) pNil))
      refine k_chgf rfl rfl (chg_bsv (enc := (e1 .u8)) (xs := ([v69.Owner, v69.Life] : List Int)) tt_ok rfl rfl rfl rfl rfl rfl rfl rfl (e1_len _)) rfl (.inr (by rintro _ _ ⟨_, _, _, _, rfl, _, _, rfl⟩; exact ⟨_, (pCons (Sel.sa Sel.hc) (pCons (Sel.sa Sel.hc) pNil))⟩)) ?_
      rintro _ _ ⟨a92, n92_, c92, B92, rfl, N92, V92, rfl⟩
      refine k_ls (Ls' := (B92 ++ (⟨b7, [.int .i32 v69.X, .int .i32 v69.Y, .int .i32 v69.VX, .int .i32 v69.VY, .int .u8 v69.Owner, .int .u8 v69.Life], 87, (0, 0)⟩ :: (⟨b1, [.int .u64 p0.Frame, .int .u64 p0.Seed, .int .i32 p0.Players.1.X, .int .i32 p0.Players.1.Y, .int .i32 p0.Players.1.VX, .int .i32 p0.Players.1.VY, .int .u8 p0.Players.1.Health, .int .u8 p0.Players.1.Cool, .int .u8 p0.Players.1.Face, .int .i32 p0.Players.2.X, .int .i32 p0.Players.2.Y, .int .i32 p0.Players.2.VX, .int .i32 p0.Players.2.VY, .int .u8 p0.Players.2.Health, .int .u8 p0.Players.2.Cool, .int .u8 p0.Players.2.Face, .slice p0a0 p0n0 p0c0, .int .u16 p0.Score.1, .int .u16 p0.Score.2], 41, (0, 0)⟩ :: [])))) (pSub (pCons (Sel.sa Sel.hc) (pCons (Sel.sa Sel.hc) pNil))) ?_
      refine k_val (v := .string ⟨(toB ([v69.Owner, v69.Life] : List Int)).toArray⟩) rfl rfl rfl (pSub (pApp Sel.ha (pCons Sel.hc (pCons Sel.hc pNil)))) (val_b2s (xs := ([v69.Owner, v69.Life] : List Int)) tt_ok rfl rfl rfl rfl N92 (Rds.of_vec V92) ⟨_, Sel.ha⟩) rfl ?_
      replace h := bsome h; obtain ⟨v78, x78, h⟩ := h
      refine k_cq rfl rfl rfl Tryd.call86 rfl rfl rfl (q_pf (k_hindcastref08_signed x78) (fun _ _ => trivial)) rfl (pSub (pApp Sel.ha (pCons Sel.hc (pCons Sel.hc pNil)))) ?_
      replace h := bsome h; obtain ⟨v79, x79, h⟩ := h
      refine k_val (v := .string ⟨v79.toArray⟩) rfl rfl rfl (pSub (pApp Sel.ha (pCons Sel.hc (pCons Sel.hc pNil)))) (val_cat tt_ok rfl rfl x79) rfl ?_
      replace h := bsome h; obtain ⟨v82, x82, h⟩ := h
      refine k_cq rfl rfl rfl Tryd.call86 rfl rfl rfl (q_pf (k_hindcastref08_signed x82) (fun _ _ => trivial)) rfl (pSub (pApp Sel.ha (pCons Sel.hc (pCons Sel.hc pNil)))) ?_
      replace h := bsome h; obtain ⟨v83, x83, h⟩ := h
      refine k_val (v := .string ⟨v83.toArray⟩) rfl rfl rfl (pSub (pApp Sel.ha (pCons Sel.hc (pCons Sel.hc pNil)))) (val_cat tt_ok rfl rfl x83) rfl ?_
      replace h := bsome h; obtain ⟨v86, x86, h⟩ := h
      refine k_cq rfl rfl rfl Tryd.call86 rfl rfl rfl (q_pf (k_hindcastref08_signed x86) (fun _ _ => trivial)) rfl (pSub (pApp Sel.ha (pCons Sel.hc (pCons Sel.hc pNil)))) ?_
      replace h := bsome h; obtain ⟨v87, x87, h⟩ := h
      refine k_val (v := .string ⟨v87.toArray⟩) rfl rfl rfl (pSub (pApp Sel.ha (pCons Sel.hc (pCons Sel.hc pNil)))) (val_cat tt_ok rfl rfl x87) rfl ?_
      replace h := bsome h; obtain ⟨v94, x94, h⟩ := h
      refine k_val (v := .string ⟨v94.toArray⟩) rfl rfl rfl (pSub (pApp Sel.ha (pCons Sel.hc (pCons Sel.hc pNil)))) (val_cat tt_ok rfl rfl x94) rfl ?_
      refine k_val rfl rfl rfl (pSub (pApp Sel.ha (pCons Sel.hc (pCons Sel.hc pNil)))) (stepV_ok tt_ok rfl) rfl ?_
      refine k_end (by kernel_rfl) ?_
      refine wx_block (wx_then (wc_region ?_))
      refine wl_pure tt_ok rfl rfl ?_
      refine wl_pure (v := .int .i64 (IntKind.wrap .i64 (j36_6 + (1 : Int)))) tt_ok rfl rfl ?_
      refine wl_pure tt_ok rfl rfl ?_
      refine wl_nil ?_
      exact wx_round m36 (Nat.lt_succ_self m36) ⟨v94, (IntKind.wrap .i64 (j36_6 + (1 : Int))), h, rfl, rfl⟩ (agree_cons rfl (agree_cons rfl (agree_cons rfl (agree_cons rfl agree_nil)))) (pSub (pCons (Sel.sa (Sel.sc Sel.hc)) pNil))
    refine k_chgf rfl rfl (chg_bsv (enc := (e1 .u8)) (xs := ([v69.Owner, v69.Life] : List Int)) tt_ok rfl rfl rfl rfl rfl rfl rfl rfl (e1_len _)) rfl (.inr (by rintro _ _ ⟨_, _, _, _, rfl, _, _, rfl⟩; exact ⟨_, (pCons (Sel.sa Sel.hc) (pCons (Sel.sa Sel.hc) pNil))⟩)) ?_
    rintro _ _ ⟨a92, n92_, c92, B92, rfl, N92, V92, rfl⟩
    refine k_ls (Ls' := (B92 ++ (⟨b7, [.int .i32 v69.X, .int .i32 v69.Y, .int .i32 v69.VX, .int .i32 v69.VY, .int .u8 v69.Owner, .int .u8 v69.Life], 87, (0, 0)⟩ :: (⟨b1, [.int .u64 p0.Frame, .int .u64 p0.Seed, .int .i32 p0.Players.1.X, .int .i32 p0.Players.1.Y, .int .i32 p0.Players.1.VX, .int .i32 p0.Players.1.VY, .int .u8 p0.Players.1.Health, .int .u8 p0.Players.1.Cool, .int .u8 p0.Players.1.Face, .int .i32 p0.Players.2.X, .int .i32 p0.Players.2.Y, .int .i32 p0.Players.2.VX, .int .i32 p0.Players.2.VY, .int .u8 p0.Players.2.Health, .int .u8 p0.Players.2.Cool, .int .u8 p0.Players.2.Face, .slice p0a0 p0n0 p0c0, .int .u16 p0.Score.1, .int .u16 p0.Score.2], 41, (0, 0)⟩ :: [])))) (pSub (pCons (Sel.sa Sel.hc) (pCons (Sel.sa Sel.hc) pNil))) ?_
    refine k_val (v := .string ⟨(toB ([v69.Owner, v69.Life] : List Int)).toArray⟩) rfl rfl rfl (pSub (pApp Sel.ha (pCons Sel.hc (pCons Sel.hc pNil)))) (val_b2s (xs := ([v69.Owner, v69.Life] : List Int)) tt_ok rfl rfl rfl rfl N92 (Rds.of_vec V92) ⟨_, Sel.ha⟩) rfl ?_
    replace h := bsome h; obtain ⟨v74, x74, h⟩ := h
    refine k_cq rfl rfl rfl Tryd.call86 rfl rfl rfl (q_pf (k_hindcastref08_signed x74) (fun _ _ => trivial)) rfl (pSub (pApp Sel.ha (pCons Sel.hc (pCons Sel.hc pNil)))) ?_
    replace h := bsome h; obtain ⟨v75, x75, h⟩ := h
    refine k_val (v := .string ⟨v75.toArray⟩) rfl rfl rfl (pSub (pApp Sel.ha (pCons Sel.hc (pCons Sel.hc pNil)))) (val_cat tt_ok rfl rfl x75) rfl ?_
    replace h := bsome h; obtain ⟨v78, x78, h⟩ := h
    refine k_cq rfl rfl rfl Tryd.call86 rfl rfl rfl (q_pf (k_hindcastref08_signed x78) (fun _ _ => trivial)) rfl (pSub (pApp Sel.ha (pCons Sel.hc (pCons Sel.hc pNil)))) ?_
    replace h := bsome h; obtain ⟨v79, x79, h⟩ := h
    refine k_val (v := .string ⟨v79.toArray⟩) rfl rfl rfl (pSub (pApp Sel.ha (pCons Sel.hc (pCons Sel.hc pNil)))) (val_cat tt_ok rfl rfl x79) rfl ?_
    replace h := bsome h; obtain ⟨v82, x82, h⟩ := h
    refine k_cq rfl rfl rfl Tryd.call86 rfl rfl rfl (q_pf (k_hindcastref08_signed x82) (fun _ _ => trivial)) rfl (pSub (pApp Sel.ha (pCons Sel.hc (pCons Sel.hc pNil)))) ?_
    replace h := bsome h; obtain ⟨v83, x83, h⟩ := h
    refine k_val (v := .string ⟨v83.toArray⟩) rfl rfl rfl (pSub (pApp Sel.ha (pCons Sel.hc (pCons Sel.hc pNil)))) (val_cat tt_ok rfl rfl x83) rfl ?_
    replace h := bsome h; obtain ⟨v86, x86, h⟩ := h
    refine k_cq rfl rfl rfl Tryd.call86 rfl rfl rfl (q_pf (k_hindcastref08_signed x86) (fun _ _ => trivial)) rfl (pSub (pApp Sel.ha (pCons Sel.hc (pCons Sel.hc pNil)))) ?_
    replace h := bsome h; obtain ⟨v87, x87, h⟩ := h
    refine k_val (v := .string ⟨v87.toArray⟩) rfl rfl rfl (pSub (pApp Sel.ha (pCons Sel.hc (pCons Sel.hc pNil)))) (val_cat tt_ok rfl rfl x87) rfl ?_
    replace h := bsome h; obtain ⟨v94, x94, h⟩ := h
    refine k_val (v := .string ⟨v94.toArray⟩) rfl rfl rfl (pSub (pApp Sel.ha (pCons Sel.hc (pCons Sel.hc pNil)))) (val_cat tt_ok rfl rfl x94) rfl ?_
    refine k_val rfl rfl rfl (pSub (pApp Sel.ha (pCons Sel.hc (pCons Sel.hc pNil)))) (stepV_ok tt_ok rfl) rfl ?_
    refine k_end (by kernel_rfl) ?_
    refine wx_block (wx_then (wc_region ?_))
    refine wl_pure tt_ok rfl rfl ?_
    refine wl_pure (v := .int .i64 (IntKind.wrap .i64 (j36_6 + (1 : Int)))) tt_ok rfl rfl ?_
    refine wl_pure tt_ok rfl rfl ?_
    refine wl_nil ?_
    exact wx_round m36 (Nat.lt_succ_self m36) ⟨v94, (IntKind.wrap .i64 (j36_6 + (1 : Int))), h, rfl, rfl⟩ (agree_cons rfl (agree_cons rfl (agree_cons rfl (agree_cons rfl agree_nil)))) (pSub (pCons (Sel.sa (Sel.sc Sel.hc)) pNil))
  replace h := cf hc h
  refine wc_exit (wx_then_exit ?_)
  simp only [Option.some.injEq] at h
  obtain rfl := h
  have h := hl36; clear hl36; try dsimp only [orE_l, orE_r] at h
  refine wx_then_exit (wx_block_exit (wx_then (wc_seq ?_)))
  refine wc_quiet (by kernel_rfl) (by kernel_rfl) ?_
  refine wq_pure tt_ok rfl rfl ?_
  refine wq_pure (v := .pointer (some ⟨b1, 17, none⟩)) tt_ok rfl rfl ?_
  refine wq_val (v := .pointer (some ⟨b1, 17, none⟩)) (val_ia (j := 0) tt_ok rfl rfl rfl rfl rfl rfl rfl) rfl ?_
  refine wq_val (v := .int .u16 p0.Score.1) (val_load tt_ok rfl (List.Mem.head _) rfl) rfl ?_
  refine wq_pure (v := .int .u64 (IntKind.wrap .u64 p0.Score.1)) tt_ok rfl rfl ?_
  replace h := bsome h; obtain ⟨v100, x100, h⟩ := h
  refine wq_cq Tryd.call85 rfl rfl rfl (q_pf (k_hindcastref02_Number x100) (fun _ _ => trivial)) rfl ?_
  replace h := bsome h; obtain ⟨v101, x101, h⟩ := h
  refine wq_val (v := .string ⟨v101.toArray⟩) (val_cat tt_ok rfl rfl x101) rfl ?_
  refine wq_pure (v := .pointer (some ⟨b1, 17, none⟩)) tt_ok rfl rfl ?_
  refine wq_val (v := .pointer (some ⟨b1, 18, none⟩)) (val_ia (j := 1) tt_ok rfl rfl rfl rfl rfl rfl rfl) rfl ?_
  refine wq_val (v := .int .u16 p0.Score.2) (val_load tt_ok rfl (List.Mem.head _) rfl) rfl ?_
  refine wq_pure (v := .int .u64 (IntKind.wrap .u64 p0.Score.2)) tt_ok rfl rfl ?_
  replace h := bsome h; obtain ⟨v106, x106, h⟩ := h
  refine wq_cq Tryd.call85 rfl rfl rfl (q_pf (k_hindcastref02_Number x106) (fun _ _ => trivial)) rfl ?_
  replace h := bsome h; obtain ⟨v107, x107, h⟩ := h
  refine wq_val (v := .string ⟨v107.toArray⟩) (val_cat tt_ok rfl rfl x107) rfl ?_
  refine wq_pure tt_ok rfl rfl ?_
  refine wq_nil ?_
  refine wx_then (wc_ret ?_)
  simp only [Option.some.injEq] at h
  obtain rfl := h
  exact wx_pf tt_ok (.inl rfl) Tryd.results68 (Res.tmp rfl Res.nil) rfl

theorem k_hindcastref10_step {F : Nat} {p0 : Int} {p1 : Int} {r0 : Int} (h : m_hindcastref10_step F p0 p1 = some r0) :
    Pf Tryd.prog 83 [.int .u64 p0, .int .u8 p1] (fun w => True) (.int .u64 r0) := by
  unfold m_hindcastref10_step at h
  refine pf_of_wc Tryd.func83 rfl Tryd.ntmps83 rfl rfl (fun w0 hR => ?_)
  refine wc_seq (wc_region ?_)
  refine wl_pure tt_ok rfl rfl ?_
  refine wl_nil (wx_then (wc_seq (wc_region ?_)))
  iterate 2 refine wl_pure tt_ok rfl rfl ?_
  refine wl_pure (v := .int .u64 (IntKind.wrap .u64 p1)) tt_ok rfl rfl ?_
  refine wl_pure (v := .int .u64 (bits .xor .u64 p0 (IntKind.wrap .u64 p1))) tt_ok rfl rfl ?_
  refine wl_pure (v := .int .u64 (IntKind.wrap .u64 ((bits .xor .u64 p0 (IntKind.wrap .u64 p1)) * (1099511628211 : Int)))) tt_ok rfl rfl ?_
  refine wl_pure tt_ok rfl rfl ?_
  refine wl_nil (wx_then (wc_ret ?_))
  simp only [Option.some.injEq] at h
  obtain rfl := h
  exact wx_pf tt_ok (.inl rfl) Tryd.results83 (Res.tmp rfl Res.nil) rfl

theorem k_hindcastref10_Join {F : Nat} {p0 : Int} {p1 : (List UInt8)} {r0 : Int} (h : m_hindcastref10_Join F p0 p1 = some r0) :
    Pf Tryd.prog 67 [.int .u64 p0, .string ⟨p1.toArray⟩] (fun w => True) (.int .u64 r0) := by
  unfold m_hindcastref10_Join at h
  refine pf_of_wc Tryd.func67 rfl Tryd.ntmps67 rfl rfl (fun w0 hR => ?_)
  refine wc_seq (wc_region ?_)
  refine wl_pure tt_ok rfl rfl ?_
  refine wl_nil (wx_then (wc_seq (wc_seq (wc_region ?_))))
  refine wl_pure tt_ok rfl rfl ?_
  refine wl_nil (wx_then (wc_block ?_))
  replace h := bsome h; obtain ⟨l7_0, h, hl7⟩ := h
  refine wc_loop (fun m E L => ∃ (j7_0 : Int) (j7_5 : Int), m_hindcastref10_Join_L6 F p1 m j7_0 j7_5 = some l7_0 ∧ E = [(0, .int .u64 j7_0), (1, .string ⟨p1.toArray⟩), (4, .int .u64 (0 : Int)), (5, .int .i64 j7_5)] ∧ L = []) F ⟨p0, (0 : Int), h, rfl, rfl⟩ (agree_cons rfl (agree_cons rfl (agree_cons rfl (agree_cons rfl agree_nil)))) (pSub pNil) ?_
  clear h
  rintro m7 _ _ ⟨j7_0, j7_5, h, rfl, rfl⟩
  rcases m7 with _ | m7
  · rw [m_hindcastref10_Join_L6.eq_1] at h; cases h
  rw [m_hindcastref10_Join_L6.eq_2] at h
  refine wc_seq (wc_seq (wc_region ?_))
  iterate 2 refine wl_pure tt_ok rfl rfl ?_
  refine wl_pure (v := .int .i64 (p1.length : Int)) tt_ok rfl rfl ?_
  refine wl_pure (v := .bool (decide (j7_5 < (p1.length : Int)))) tt_ok rfl rfl ?_
  refine wl_nil (wx_then ?_)
  refine wc_cond rfl (fun hc => ?_) (fun hc => ?_)
  · replace h := ct hc h
    refine wc_skip (wx_then (wc_seq (wc_block (wc_region ?_))))
    iterate 3 refine wl_pure tt_ok rfl rfl ?_
    replace h := bsome h; obtain ⟨v15, x15, h⟩ := h
    refine wl_val (v := .int .u8 (v15.toNat : Int)) (val_sx tt_ok rfl rfl rfl x15) rfl ?_
    replace h := bsome h; obtain ⟨v16, x16, h⟩ := h
    refine wl_cq Tryd.call83 rfl rfl rfl (q_pf (k_hindcastref10_step x16) (fun _ _ => trivial)) rfl ?_
    refine wl_pure tt_ok rfl rfl ?_
    refine wl_nil (wx_block (wx_then (wc_region ?_)))
    refine wl_pure tt_ok rfl rfl ?_
    refine wl_pure (v := .int .i64 (IntKind.wrap .i64 (j7_5 + (1 : Int)))) tt_ok rfl rfl ?_
    refine wl_pure tt_ok rfl rfl ?_
    refine wl_nil ?_
    exact wx_round m7 (Nat.lt_succ_self m7) ⟨v16, (IntKind.wrap .i64 (j7_5 + (1 : Int))), h, rfl, rfl⟩ (agree_cons rfl (agree_cons rfl (agree_cons rfl (agree_cons rfl agree_nil)))) (pSub pNil)
  replace h := cf hc h
  refine wc_exit (wx_then_exit ?_)
  simp only [Option.some.injEq] at h
  obtain rfl := h
  have h := hl7; clear hl7; try dsimp only [orE_l, orE_r] at h
  refine wx_then_exit (wx_block_exit (wx_then (wc_seq (wc_region ?_))))
  iterate 2 refine wl_pure tt_ok rfl rfl ?_
  refine wl_nil (wx_then (wc_ret ?_))
  simp only [Option.some.injEq] at h
  obtain rfl := h
  exact wx_pf tt_ok (.inl rfl) Tryd.results67 (Res.tmp rfl Res.nil) rfl

theorem k_hindcastref10_Of {F : Nat} {p0 : T_api_State} {p0a0 : Option Addr} {p0n0 p0c0 : Nat} {r0 : Int} (p0N0 : p0n0 = p0.Shots.length) (p0H0 : p0n0 ≤ p0c0) (h : m_hindcastref10_Of F p0 = some r0) :
    Pf Tryd.prog 43 [.agg #[.int .u64 p0.Frame, .int .u64 p0.Seed, .int .i32 p0.Players.1.X, .int .i32 p0.Players.1.Y, .int .i32 p0.Players.1.VX, .int .i32 p0.Players.1.VY, .int .u8 p0.Players.1.Health, .int .u8 p0.Players.1.Cool, .int .u8 p0.Players.1.Face, .int .i32 p0.Players.2.X, .int .i32 p0.Players.2.Y, .int .i32 p0.Players.2.VX, .int .i32 p0.Players.2.VY, .int .u8 p0.Players.2.Health, .int .u8 p0.Players.2.Cool, .int .u8 p0.Players.2.Face, .slice p0a0 p0n0 p0c0, .int .u16 p0.Score.1, .int .u16 p0.Score.2]] (fun w => Rds w [] [] p0a0 (flat c_T_api_Shot p0.Shots)) (.int .u64 r0) := by
  unfold m_hindcastref10_Of at h
  refine pf_of_wc Tryd.func43 rfl Tryd.ntmps43 rfl rfl (fun w0 hR => ?_)
  have p0S0 := hR
  refine wc_seq (wc_region ?_)
  refine wl_box rfl rfl rfl (fun b1 => ?_)
  refine wl_pure tt_ok rfl rfl ?_
  refine wl_nil (wx_then (wc_seq (wc_region ?_)))
  refine wl_val (v := .agg #[.int .u64 p0.Frame, .int .u64 p0.Seed, .int .i32 p0.Players.1.X, .int .i32 p0.Players.1.Y, .int .i32 p0.Players.1.VX, .int .i32 p0.Players.1.VY, .int .u8 p0.Players.1.Health, .int .u8 p0.Players.1.Cool, .int .u8 p0.Players.1.Face, .int .i32 p0.Players.2.X, .int .i32 p0.Players.2.Y, .int .i32 p0.Players.2.VX, .int .i32 p0.Players.2.VY, .int .u8 p0.Players.2.Health, .int .u8 p0.Players.2.Cool, .int .u8 p0.Players.2.Face, .slice p0a0 p0n0 p0c0, .int .u16 p0.Score.1, .int .u16 p0.Score.2]) (val_load tt_ok rfl (List.Mem.head _) rfl) rfl ?_
  replace h := bsome h; obtain ⟨v4, x4, h⟩ := h
  refine wl_cq Tryd.call68 rfl rfl rfl (q_pf (k_hindcastref08_Put (p0 := p0) p0N0 p0H0 x4) (Rds.call p0S0 pNil rsub_nil)) rfl ?_
  replace h := bsome h; obtain ⟨v5, x5, h⟩ := h
  refine wl_cq Tryd.call67 rfl rfl rfl (q_pf (k_hindcastref10_Join x5) (fun _ _ => trivial)) rfl ?_
  refine wl_pure tt_ok rfl rfl ?_
  refine wl_nil (wx_then (wc_ret ?_))
  simp only [Option.some.injEq] at h
  obtain rfl := h
  exact wx_pf tt_ok (.inl rfl) Tryd.results43 (Res.tmp rfl Res.nil) rfl

theorem k_hindcastref29_Watch_State {F : Nat} {p0 : T_hindcastref29_Watch} {p0b p0t : Nat} {p0a0 : Option Addr} {p0n0 : Nat} {p0c0 : Nat} {p0B0 : List Blk} {p1 : T_api_State} {p1a0 : Option Addr} {p1n0 p1c0 : Nat} {r0 : T_hindcastref29_Watch} {r1 : Int} (p0N0 : p0n0 = p0.L.length) (p0V0 : Own 77 5 p0a0 p0n0 p0c0 (flat c_T_hindcastref29_Entry p0.L) p0B0) (p1N0 : p1n0 = p1.Shots.length) (p1H0 : p1n0 ≤ p1c0) (h : m_hindcastref29_Watch_State F p0 p1 = some (r0, r1)) :
    SpD Tryd.prog 23 [.pointer (some ⟨p0b, 0, none⟩), .agg #[.int .u64 p1.Frame, .int .u64 p1.Seed, .int .i32 p1.Players.1.X, .int .i32 p1.Players.1.Y, .int .i32 p1.Players.1.VX, .int .i32 p1.Players.1.VY, .int .u8 p1.Players.1.Health, .int .u8 p1.Players.1.Cool, .int .u8 p1.Players.1.Face, .int .i32 p1.Players.2.X, .int .i32 p1.Players.2.Y, .int .i32 p1.Players.2.VX, .int .i32 p1.Players.2.VY, .int .u8 p1.Players.2.Health, .int .u8 p1.Players.2.Cool, .int .u8 p1.Players.2.Face, .slice p1a0 p1n0 p1c0, .int .u16 p1.Score.1, .int .u16 p1.Score.2]] (⟨p0b, [.int .u64 p0.Rows, .slice p0a0 p0n0 p0c0, .bool p0.Clashed], p0t, (0, 0)⟩ :: (p0B0 ++ [])) (fun w => Rds w (ids (⟨p0b, [.int .u64 p0.Rows, .slice p0a0 p0n0 p0c0, .bool p0.Clashed], p0t, (0, 0)⟩ :: (p0B0 ++ []))) [] p1a0 (flat c_T_api_Shot p1.Shots)) (fun v D => ∃ (r0a0 : Option Addr) (r0n0 : Nat) (r0c0 : Nat) (r0B0 : List Blk), r0n0 = r0.L.length ∧ Own 77 5 r0a0 r0n0 r0c0 (flat c_T_hindcastref29_Entry r0.L) r0B0 ∧ v = .int .i64 r1 ∧ D = fun F => (⟨p0b, [.int .u64 r0.Rows, .slice r0a0 r0n0 r0c0, .bool r0.Clashed], p0t, (0, 0)⟩ :: (r0B0 ++ F))) := by
  unfold m_hindcastref29_Watch_State at h
  refine sp_of_wc Tryd.func23 rfl Tryd.ntmps23 rfl rfl (fun w0 hR => ?_)
  have p1S0 := hR
  refine wc_seq (wc_region ?_)
  refine wl_box rfl rfl rfl (fun b3 => ?_)
  refine wl_pure tt_ok rfl rfl ?_
  refine wl_nil (wx_then (wc_seq (wc_seq ?_)))
  refine wc_quiet (by kernel_rfl) (by kernel_rfl) ?_
  refine wq_pure (v := .pointer (some ⟨b3, 0, none⟩)) tt_ok rfl rfl ?_
  refine wq_val (v := .int .u64 p1.Frame) (val_load tt_ok rfl (List.Mem.head _) rfl) rfl ?_
  refine wq_pure tt_ok rfl rfl ?_
  refine wq_pure tt_ok rfl rfl ?_
  refine wq_pure (v := .pointer (some ⟨p0b, 0, none⟩)) tt_ok rfl rfl ?_
  refine wq_val (v := .int .u64 p0.Rows) (val_load tt_ok rfl (List.Mem.tail _ (List.Mem.head _)) rfl) rfl ?_
  replace h := bsome h; obtain ⟨v11, x11, h⟩ := h
  refine wq_val (v := .int .u64 v11) (val_rem rfl rfl x11) rfl ?_
  refine wq_pure (v := .bool (v11 != (0 : Int))) tt_ok rfl rfl ?_
  refine wq_nil ?_
  refine wx_then ?_
  refine wc_cond rfl (fun hc => ?_) (fun hc => ?_)
  · replace h := ct hc h
    refine wc_seq (wc_region ?_)
    refine wl_pure tt_ok rfl rfl ?_
    refine wl_nil (wx_then (wc_ret (wx_then_ret ?_)))
    simp only [Option.some.injEq, Prod.mk.injEq] at h
    obtain ⟨rfl, rfl⟩ := h
    exact wx_spD tt_ok (.inl rfl) Tryd.results23 (Res.tmp rfl Res.nil) ⟨p0a0, p0n0, p0c0, p0B0, p0N0, p0V0, rfl, rfl⟩ (fun F => by simp) (pSub (pCons (Sel.sc Sel.hc) (pApp (Sel.sc Sel.ha) pNil)))
  replace h := cf hc h
  refine wc_skip (wx_then (wc_seq ?_))
  refine wc_k2 (Ls := (⟨b3, [.int .u64 p1.Frame, .int .u64 p1.Seed, .int .i32 p1.Players.1.X, .int .i32 p1.Players.1.Y, .int .i32 p1.Players.1.VX, .int .i32 p1.Players.1.VY, .int .u8 p1.Players.1.Health, .int .u8 p1.Players.1.Cool, .int .u8 p1.Players.1.Face, .int .i32 p1.Players.2.X, .int .i32 p1.Players.2.Y, .int .i32 p1.Players.2.VX, .int .i32 p1.Players.2.VY, .int .u8 p1.Players.2.Health, .int .u8 p1.Players.2.Cool, .int .u8 p1.Players.2.Face, .slice p1a0 p1n0 p1c0, .int .u16 p1.Score.1, .int .u16 p1.Score.2], 41, (0, 0)⟩ :: (⟨p0b, [.int .u64 p0.Rows, .slice p0a0 p0n0 p0c0, .bool p0.Clashed], p0t, (0, 0)⟩ :: (p0B0 ++ [])))) [4, 5, 6] [5, 6] [0, 0, 2, 0, 8, 31, 63] [0, 1, 2, 3, 4, 5, 6] (by kernel_rfl) (by kernel_rfl) (by kernel_rfl) ?_
  refine k_val rfl rfl rfl (pSub (pCons Sel.hc (pCons Sel.hc (pApp Sel.ha pNil)))) (stepV_ok tt_ok rfl) rfl ?_
  refine k_val (v := .pointer (some ⟨b3, 0, none⟩)) rfl rfl rfl (pSub (pCons Sel.hc (pCons Sel.hc (pApp Sel.ha pNil)))) (stepV_ok tt_ok rfl) rfl ?_
  refine k_val (v := .int .u64 p1.Frame) rfl rfl rfl (pSub (pCons Sel.hc (pCons Sel.hc (pApp Sel.ha pNil)))) (val_load tt_ok rfl (List.Mem.head _) rfl) rfl ?_
  refine k_val (v := .agg #[.int .u64 p1.Frame, .int .u64 p1.Seed, .int .i32 p1.Players.1.X, .int .i32 p1.Players.1.Y, .int .i32 p1.Players.1.VX, .int .i32 p1.Players.1.VY, .int .u8 p1.Players.1.Health, .int .u8 p1.Players.1.Cool, .int .u8 p1.Players.1.Face, .int .i32 p1.Players.2.X, .int .i32 p1.Players.2.Y, .int .i32 p1.Players.2.VX, .int .i32 p1.Players.2.VY, .int .u8 p1.Players.2.Health, .int .u8 p1.Players.2.Cool, .int .u8 p1.Players.2.Face, .slice p1a0 p1n0 p1c0, .int .u16 p1.Score.1, .int .u16 p1.Score.2]) rfl rfl rfl (pSub (pCons Sel.hc (pCons Sel.hc (pApp Sel.ha pNil)))) (val_load tt_ok rfl (List.Mem.head _) rfl) rfl ?_
  replace h := bsome h; obtain ⟨v17, x17, h⟩ := h
  refine k_cq rfl rfl rfl Tryd.call43 rfl rfl rfl (q_pf (k_hindcastref10_Of (p0 := p1) p1N0 p1H0 x17) (Rds.call p1S0 pNil rsub_nil)) rfl (pSub (pCons Sel.hc (pCons Sel.hc (pApp Sel.ha pNil)))) ?_
  replace h := bsome h; obtain ⟨⟨o18_0, v18⟩, x18, h⟩ := h; try dsimp only at h
  refine k_cs rfl rfl rfl Tryd.call22 rfl rfl rfl (s_sp (k_hindcastref29_Watch_Told (p0 := p0) p0N0 p0V0 x18) (pCons (Sel.sc Sel.hc) (pApp (Sel.sc Sel.ha) pNil)) (fun _ _ => trivial)) rfl (.inl rfl) ?_
  rintro _ _ ⟨_, ⟨o18_0a0, o18_0n0, o18_0c0, o18_0B0, o18_0N0, o18_0V0, rfl, rfl⟩, rfl⟩
  refine k_chg rfl rfl rfl (Chg.of_val (stepV_ok tt_ok rfl)) rfl (.inl rfl) ?_
  rintro _ _ ⟨rfl, rfl⟩
  refine k_end (by kernel_rfl) ?_
  refine wx_then (wc_ret ?_)
  simp only [Option.some.injEq, Prod.mk.injEq] at h
  obtain ⟨rfl, rfl⟩ := h
  exact wx_spD tt_ok (.inl rfl) Tryd.results23 (Res.tmp rfl Res.nil) ⟨o18_0a0, o18_0n0, o18_0c0, o18_0B0, o18_0N0, o18_0V0, rfl, rfl⟩ (fun F => by simp) (pSub (pCons Sel.hc (pApp Sel.ha pNil)))

theorem k_hindcastlaw29_one {F : Nat} {p0 : T_watch_Watch} {p0b p0t : Nat} {p0a0 : Option Addr} {p0n0 : Nat} {p0c0 : Nat} {p0B0 : List Blk} {p1 : T_hindcastref29_Watch} {p1b p1t : Nat} {p1a0 : Option Addr} {p1n0 : Nat} {p1c0 : Nat} {p1B0 : List Blk} {p2 : T_hindcastlaw29_Act} {p2a0 : Option Addr} {p2n0 p2c0 : Nat} {r0 : T_watch_Watch} {r1 : T_hindcastref29_Watch} {r2 : Bool} (p0N0 : p0n0 = p0.l.length) (p0V0 : Own 73 5 p0a0 p0n0 p0c0 (flat c_T_watch_entry p0.l) p0B0) (p1N0 : p1n0 = p1.L.length) (p1V0 : Own 77 5 p1a0 p1n0 p1c0 (flat c_T_hindcastref29_Entry p1.L) p1B0) (p2N0 : p2n0 = p2.S.Shots.length) (p2H0 : p2n0 ≤ p2c0) (h : m_hindcastlaw29_one F p0 p1 p2 = some (r0, r1, r2)) :
    SpD Tryd.prog 10 [.pointer (some ⟨p0b, 0, none⟩), .pointer (some ⟨p1b, 0, none⟩), .agg #[.int .u8 p2.What, .int .u64 p2.F, .int .u64 p2.Sum, .int .u64 p2.S.Frame, .int .u64 p2.S.Seed, .int .i32 p2.S.Players.1.X, .int .i32 p2.S.Players.1.Y, .int .i32 p2.S.Players.1.VX, .int .i32 p2.S.Players.1.VY, .int .u8 p2.S.Players.1.Health, .int .u8 p2.S.Players.1.Cool, .int .u8 p2.S.Players.1.Face, .int .i32 p2.S.Players.2.X, .int .i32 p2.S.Players.2.Y, .int .i32 p2.S.Players.2.VX, .int .i32 p2.S.Players.2.VY, .int .u8 p2.S.Players.2.Health, .int .u8 p2.S.Players.2.Cool, .int .u8 p2.S.Players.2.Face, .slice p2a0 p2n0 p2c0, .int .u16 p2.S.Score.1, .int .u16 p2.S.Score.2]] (⟨p0b, [.int .u64 p0.rows, .slice p0a0 p0n0 p0c0, .bool p0.clashed], p0t, (0, 0)⟩ :: (p0B0 ++ (⟨p1b, [.int .u64 p1.Rows, .slice p1a0 p1n0 p1c0, .bool p1.Clashed], p1t, (0, 0)⟩ :: (p1B0 ++ [])))) (fun w => Rds w (ids (⟨p0b, [.int .u64 p0.rows, .slice p0a0 p0n0 p0c0, .bool p0.clashed], p0t, (0, 0)⟩ :: (p0B0 ++ (⟨p1b, [.int .u64 p1.Rows, .slice p1a0 p1n0 p1c0, .bool p1.Clashed], p1t, (0, 0)⟩ :: (p1B0 ++ []))))) [] p2a0 (flat c_T_api_Shot p2.S.Shots) ∧ Rds w (ids (⟨p0b, [.int .u64 p0.rows, .slice p0a0 p0n0 p0c0, .bool p0.clashed], p0t, (0, 0)⟩ :: (p0B0 ++ (⟨p1b, [.int .u64 p1.Rows, .slice p1a0 p1n0 p1c0, .bool p1.Clashed], p1t, (0, 0)⟩ :: (p1B0 ++ []))))) [] (some ⟨0, 0, none⟩) (flat (fun _ : Unit => gl_state_playerBounds) [()]) ∧ Rds w (ids (⟨p0b, [.int .u64 p0.rows, .slice p0a0 p0n0 p0c0, .bool p0.clashed], p0t, (0, 0)⟩ :: (p0B0 ++ (⟨p1b, [.int .u64 p1.Rows, .slice p1a0 p1n0 p1c0, .bool p1.Clashed], p1t, (0, 0)⟩ :: (p1B0 ++ []))))) [] (some ⟨1, 0, none⟩) (flat (fun _ : Unit => gl_state_shotBounds) [()])) (fun v D => ∃ (r0a0 : Option Addr) (r0n0 : Nat) (r0c0 : Nat) (r0B0 : List Blk) (r1a0 : Option Addr) (r1n0 : Nat) (r1c0 : Nat) (r1B0 : List Blk), r0n0 = r0.l.length ∧ Own 73 5 r0a0 r0n0 r0c0 (flat c_T_watch_entry r0.l) r0B0 ∧ r1n0 = r1.L.length ∧ Own 77 5 r1a0 r1n0 r1c0 (flat c_T_hindcastref29_Entry r1.L) r1B0 ∧ v = .bool r2 ∧ D = fun F => (⟨p0b, [.int .u64 r0.rows, .slice r0a0 r0n0 r0c0, .bool r0.clashed], p0t, (0, 0)⟩ :: (r0B0 ++ (⟨p1b, [.int .u64 r1.Rows, .slice r1a0 r1n0 r1c0, .bool r1.Clashed], p1t, (0, 0)⟩ :: (r1B0 ++ F))))) := by
  unfold m_hindcastlaw29_one at h
  refine sp_of_wc Tryd.func10 rfl Tryd.ntmps10 rfl rfl (fun w0 hR => ?_)
  obtain ⟨p2S0, G0S, G1S⟩ := hR
  refine wc_seq (wc_region ?_)
  refine wl_box rfl rfl rfl (fun b5 => ?_)
  refine wl_pure tt_ok rfl rfl ?_
  refine wl_nil (wx_then (wc_seq (wc_seq (wc_region ?_))))
  refine wl_pure (v := .pointer (some ⟨b5, 0, none⟩)) tt_ok rfl rfl ?_
  refine wl_val (v := .int .u8 p2.What) (val_load tt_ok rfl (List.Mem.head _) rfl) rfl ?_
  refine wl_pure (v := .int .u8 (Int.tmod p2.What 3)) tt_ok rfl rfl ?_
  refine wl_nil (wx_then (wc_block (wc_seq (wc_region ?_))))
  refine wl_pure (v := .bool ((Int.tmod p2.What 3) == (0 : Int))) tt_ok rfl rfl ?_
  refine wl_pure tt_ok rfl rfl ?_
  refine wl_nil (wx_then ?_)
  refine wc_cond rfl (fun hc => ?_) (fun hc => ?_)
  · replace h := ct hc h
    refine wc_seq ?_
    refine wc_k2 (Ls := (⟨b5, [.int .u8 p2.What, .int .u64 p2.F, .int .u64 p2.Sum, .int .u64 p2.S.Frame, .int .u64 p2.S.Seed, .int .i32 p2.S.Players.1.X, .int .i32 p2.S.Players.1.Y, .int .i32 p2.S.Players.1.VX, .int .i32 p2.S.Players.1.VY, .int .u8 p2.S.Players.1.Health, .int .u8 p2.S.Players.1.Cool, .int .u8 p2.S.Players.1.Face, .int .i32 p2.S.Players.2.X, .int .i32 p2.S.Players.2.Y, .int .i32 p2.S.Players.2.VX, .int .i32 p2.S.Players.2.VY, .int .u8 p2.S.Players.2.Health, .int .u8 p2.S.Players.2.Cool, .int .u8 p2.S.Players.2.Face, .slice p2a0 p2n0 p2c0, .int .u16 p2.S.Score.1, .int .u16 p2.S.Score.2], 43, (0, 0)⟩ :: (⟨p1b, [.int .u64 p1.Rows, .slice p1a0 p1n0 p1c0, .bool p1.Clashed], p1t, (0, 0)⟩ :: (p1B0 ++ [])))) [5, 11, 12, 13] [11, 12, 13] [0, 0, 2, 0, 8, 31, 0, 0, 128, 0, 512, 2047, 4095, 8191] [0, 1, 2, 3, 4, 6, 7, 8, 9, 10, 5, 11, 12, 13] (by kernel_rfl) (by kernel_rfl) (by kernel_rfl) ?_
    refine k_val rfl rfl rfl (pSub (pCons Sel.hc (pCons (Sel.sc (Sel.sa Sel.hc)) (pApp (Sel.sc (Sel.sa Sel.ha)) pNil)))) (stepV_ok tt_ok rfl) rfl ?_
    refine k_val (v := .pointer (some ⟨b5, 1, none⟩)) rfl rfl rfl (pSub (pCons Sel.hc (pCons (Sel.sc (Sel.sa Sel.hc)) (pApp (Sel.sc (Sel.sa Sel.ha)) pNil)))) (stepV_ok tt_ok rfl) rfl ?_
    refine k_val (v := .int .u64 p2.F) rfl rfl rfl (pSub (pCons Sel.hc (pCons (Sel.sc (Sel.sa Sel.hc)) (pApp (Sel.sc (Sel.sa Sel.ha)) pNil)))) (val_load tt_ok rfl (List.Mem.head _) rfl) rfl ?_
    refine k_val (v := .pointer (some ⟨b5, 2, none⟩)) rfl rfl rfl (pSub (pCons Sel.hc (pCons (Sel.sc (Sel.sa Sel.hc)) (pApp (Sel.sc (Sel.sa Sel.ha)) pNil)))) (stepV_ok tt_ok rfl) rfl ?_
    refine k_val (v := .int .u64 p2.Sum) rfl rfl rfl (pSub (pCons Sel.hc (pCons (Sel.sc (Sel.sa Sel.hc)) (pApp (Sel.sc (Sel.sa Sel.ha)) pNil)))) (val_load tt_ok rfl (List.Mem.head _) rfl) rfl ?_
    refine k_val rfl rfl rfl (pSub (pCons Sel.hc (pCons (Sel.sc (Sel.sa Sel.hc)) (pApp (Sel.sc (Sel.sa Sel.ha)) pNil)))) (stepV_ok tt_ok rfl) rfl ?_
    refine k_val (v := .pointer (some ⟨b5, 1, none⟩)) rfl rfl rfl (pSub (pCons Sel.hc (pCons (Sel.sc (Sel.sa Sel.hc)) (pApp (Sel.sc (Sel.sa Sel.ha)) pNil)))) (stepV_ok tt_ok rfl) rfl ?_
    refine k_val (v := .int .u64 p2.F) rfl rfl rfl (pSub (pCons Sel.hc (pCons (Sel.sc (Sel.sa Sel.hc)) (pApp (Sel.sc (Sel.sa Sel.ha)) pNil)))) (val_load tt_ok rfl (List.Mem.head _) rfl) rfl ?_
    refine k_val (v := .pointer (some ⟨b5, 2, none⟩)) rfl rfl rfl (pSub (pCons Sel.hc (pCons (Sel.sc (Sel.sa Sel.hc)) (pApp (Sel.sc (Sel.sa Sel.ha)) pNil)))) (stepV_ok tt_ok rfl) rfl ?_
    refine k_val (v := .int .u64 p2.Sum) rfl rfl rfl (pSub (pCons Sel.hc (pCons (Sel.sc (Sel.sa Sel.hc)) (pApp (Sel.sc (Sel.sa Sel.ha)) pNil)))) (val_load tt_ok rfl (List.Mem.head _) rfl) rfl ?_
    replace h := bsome h; obtain ⟨⟨o17_0, v17⟩, x17, h⟩ := h; try dsimp only at h
    refine k_cs rfl rfl rfl Tryd.call16 rfl rfl rfl (s_sp (k_watch_Watch_Own (p0 := p0) p0N0 p0V0 x17) (pCons (Sel.sc Sel.hc) (pApp (Sel.sc Sel.ha) pNil)) (fun _ _ => trivial)) rfl (.inr (by rintro _ _ ⟨_, ⟨_, _, _, _, _, _, rfl, rfl⟩, rfl⟩; exact ⟨_, (pCons (Sel.sc (Sel.sa Sel.hc)) (pCons (Sel.sc (Sel.sa Sel.hc)) (pApp (Sel.sc (Sel.sa Sel.ha)) pNil)))⟩)) ?_
    rintro _ _ ⟨_, ⟨o17_0a0, o17_0n0, o17_0c0, o17_0B0, o17_0N0, o17_0V0, rfl, rfl⟩, rfl⟩
    replace h := bsome h; obtain ⟨⟨o23_0, v23⟩, x23, h⟩ := h; try dsimp only at h
    refine k_cs rfl rfl rfl Tryd.call22 rfl rfl rfl (s_sp (k_hindcastref29_Watch_Told (p0 := p1) p1N0 p1V0 x23) (pCons (Sel.sc (Sel.sa (Sel.sc Sel.hc))) (pApp (Sel.sc (Sel.sa (Sel.sc Sel.ha))) pNil)) (fun _ _ => trivial)) rfl (.inl rfl) ?_
    rintro _ _ ⟨_, ⟨o23_0a0, o23_0n0, o23_0c0, o23_0B0, o23_0N0, o23_0V0, rfl, rfl⟩, rfl⟩
    refine k_chg rfl rfl rfl (Chg.of_val (v := .bool (v17 == v23)) (stepV_ok tt_ok rfl)) rfl (.inl rfl) ?_
    rintro _ _ ⟨rfl, rfl⟩
    refine k_chg rfl rfl rfl (Chg.of_val (stepV_ok tt_ok rfl)) rfl (.inl rfl) ?_
    rintro _ _ ⟨rfl, rfl⟩
    refine k_end (by kernel_rfl) ?_
    refine wx_then (wc_ret (wx_block_ret (wx_then_ret ?_)))
    simp only [Option.some.injEq, Prod.mk.injEq] at h
    obtain ⟨rfl, rfl, rfl⟩ := h
    exact wx_spD tt_ok (.inl rfl) Tryd.results10 (Res.tmp rfl Res.nil) ⟨o17_0a0, o17_0n0, o17_0c0, o17_0B0, o23_0a0, o23_0n0, o23_0c0, o23_0B0, o17_0N0, o17_0V0, o23_0N0, o23_0V0, rfl, rfl⟩ (fun F => by simp) (pSub (pCons (Sel.sc (Sel.sa Sel.hc)) (pApp (Sel.sc (Sel.sa Sel.ha)) (pCons Sel.hc (pApp Sel.ha pNil)))))
  replace h := cf hc h
  refine wc_seq (wc_region ?_)
  refine wl_pure (v := .bool ((Int.tmod p2.What 3) == (1 : Int))) tt_ok rfl rfl ?_
  refine wl_pure tt_ok rfl rfl ?_
  refine wl_nil (wx_then ?_)
  refine wc_cond rfl (fun hc => ?_) (fun hc => ?_)
  · replace h := ct hc h
    refine wc_seq ?_
    refine wc_k2 (Ls := (⟨b5, [.int .u8 p2.What, .int .u64 p2.F, .int .u64 p2.Sum, .int .u64 p2.S.Frame, .int .u64 p2.S.Seed, .int .i32 p2.S.Players.1.X, .int .i32 p2.S.Players.1.Y, .int .i32 p2.S.Players.1.VX, .int .i32 p2.S.Players.1.VY, .int .u8 p2.S.Players.1.Health, .int .u8 p2.S.Players.1.Cool, .int .u8 p2.S.Players.1.Face, .int .i32 p2.S.Players.2.X, .int .i32 p2.S.Players.2.Y, .int .i32 p2.S.Players.2.VX, .int .i32 p2.S.Players.2.VY, .int .u8 p2.S.Players.2.Health, .int .u8 p2.S.Players.2.Cool, .int .u8 p2.S.Players.2.Face, .slice p2a0 p2n0 p2c0, .int .u16 p2.S.Score.1, .int .u16 p2.S.Score.2], 43, (0, 0)⟩ :: (⟨p1b, [.int .u64 p1.Rows, .slice p1a0 p1n0 p1c0, .bool p1.Clashed], p1t, (0, 0)⟩ :: (p1B0 ++ [])))) [5, 11, 12, 13] [11, 12, 13] [0, 0, 2, 0, 8, 31, 0, 0, 128, 0, 512, 2047, 4095, 8191] [0, 1, 2, 3, 4, 6, 7, 8, 9, 10, 5, 11, 12, 13] (by kernel_rfl) (by kernel_rfl) (by kernel_rfl) ?_
    refine k_val rfl rfl rfl (pSub (pCons Sel.hc (pCons (Sel.sc (Sel.sa Sel.hc)) (pApp (Sel.sc (Sel.sa Sel.ha)) pNil)))) (stepV_ok tt_ok rfl) rfl ?_
    refine k_val (v := .pointer (some ⟨b5, 1, none⟩)) rfl rfl rfl (pSub (pCons Sel.hc (pCons (Sel.sc (Sel.sa Sel.hc)) (pApp (Sel.sc (Sel.sa Sel.ha)) pNil)))) (stepV_ok tt_ok rfl) rfl ?_
    refine k_val (v := .int .u64 p2.F) rfl rfl rfl (pSub (pCons Sel.hc (pCons (Sel.sc (Sel.sa Sel.hc)) (pApp (Sel.sc (Sel.sa Sel.ha)) pNil)))) (val_load tt_ok rfl (List.Mem.head _) rfl) rfl ?_
    refine k_val (v := .pointer (some ⟨b5, 2, none⟩)) rfl rfl rfl (pSub (pCons Sel.hc (pCons (Sel.sc (Sel.sa Sel.hc)) (pApp (Sel.sc (Sel.sa Sel.ha)) pNil)))) (stepV_ok tt_ok rfl) rfl ?_
    refine k_val (v := .int .u64 p2.Sum) rfl rfl rfl (pSub (pCons Sel.hc (pCons (Sel.sc (Sel.sa Sel.hc)) (pApp (Sel.sc (Sel.sa Sel.ha)) pNil)))) (val_load tt_ok rfl (List.Mem.head _) rfl) rfl ?_
    refine k_val rfl rfl rfl (pSub (pCons Sel.hc (pCons (Sel.sc (Sel.sa Sel.hc)) (pApp (Sel.sc (Sel.sa Sel.ha)) pNil)))) (stepV_ok tt_ok rfl) rfl ?_
    refine k_val (v := .pointer (some ⟨b5, 1, none⟩)) rfl rfl rfl (pSub (pCons Sel.hc (pCons (Sel.sc (Sel.sa Sel.hc)) (pApp (Sel.sc (Sel.sa Sel.ha)) pNil)))) (stepV_ok tt_ok rfl) rfl ?_
    refine k_val (v := .int .u64 p2.F) rfl rfl rfl (pSub (pCons Sel.hc (pCons (Sel.sc (Sel.sa Sel.hc)) (pApp (Sel.sc (Sel.sa Sel.ha)) pNil)))) (val_load tt_ok rfl (List.Mem.head _) rfl) rfl ?_
    refine k_val (v := .pointer (some ⟨b5, 2, none⟩)) rfl rfl rfl (pSub (pCons Sel.hc (pCons (Sel.sc (Sel.sa Sel.hc)) (pApp (Sel.sc (Sel.sa Sel.ha)) pNil)))) (stepV_ok tt_ok rfl) rfl ?_
    refine k_val (v := .int .u64 p2.Sum) rfl rfl rfl (pSub (pCons Sel.hc (pCons (Sel.sc (Sel.sa Sel.hc)) (pApp (Sel.sc (Sel.sa Sel.ha)) pNil)))) (val_load tt_ok rfl (List.Mem.head _) rfl) rfl ?_
    replace h := bsome h; obtain ⟨⟨o32_0, v32⟩, x32, h⟩ := h; try dsimp only at h
    refine k_cs rfl rfl rfl Tryd.call17 rfl rfl rfl (s_sp (k_watch_Watch_Other (p0 := p0) p0N0 p0V0 x32) (pCons (Sel.sc Sel.hc) (pApp (Sel.sc Sel.ha) pNil)) (fun _ _ => trivial)) rfl (.inr (by rintro _ _ ⟨_, ⟨_, _, _, _, _, _, rfl, rfl⟩, rfl⟩; exact ⟨_, (pCons (Sel.sc (Sel.sa Sel.hc)) (pCons (Sel.sc (Sel.sa Sel.hc)) (pApp (Sel.sc (Sel.sa Sel.ha)) pNil)))⟩)) ?_
    rintro _ _ ⟨_, ⟨o32_0a0, o32_0n0, o32_0c0, o32_0B0, o32_0N0, o32_0V0, rfl, rfl⟩, rfl⟩
    replace h := bsome h; obtain ⟨⟨o38_0, v38⟩, x38, h⟩ := h; try dsimp only at h
    refine k_cs rfl rfl rfl Tryd.call22 rfl rfl rfl (s_sp (k_hindcastref29_Watch_Told (p0 := p1) p1N0 p1V0 x38) (pCons (Sel.sc (Sel.sa (Sel.sc Sel.hc))) (pApp (Sel.sc (Sel.sa (Sel.sc Sel.ha))) pNil)) (fun _ _ => trivial)) rfl (.inl rfl) ?_
    rintro _ _ ⟨_, ⟨o38_0a0, o38_0n0, o38_0c0, o38_0B0, o38_0N0, o38_0V0, rfl, rfl⟩, rfl⟩
    refine k_chg rfl rfl rfl (Chg.of_val (v := .bool (v32 == v38)) (stepV_ok tt_ok rfl)) rfl (.inl rfl) ?_
    rintro _ _ ⟨rfl, rfl⟩
    refine k_chg rfl rfl rfl (Chg.of_val (stepV_ok tt_ok rfl)) rfl (.inl rfl) ?_
    rintro _ _ ⟨rfl, rfl⟩
    refine k_end (by kernel_rfl) ?_
    refine wx_then (wc_ret (wx_block_ret (wx_then_ret ?_)))
    simp only [Option.some.injEq, Prod.mk.injEq] at h
    obtain ⟨rfl, rfl, rfl⟩ := h
    exact wx_spD tt_ok (.inl rfl) Tryd.results10 (Res.tmp rfl Res.nil) ⟨o32_0a0, o32_0n0, o32_0c0, o32_0B0, o38_0a0, o38_0n0, o38_0c0, o38_0B0, o32_0N0, o32_0V0, o38_0N0, o38_0V0, rfl, rfl⟩ (fun F => by simp) (pSub (pCons (Sel.sc (Sel.sa Sel.hc)) (pApp (Sel.sc (Sel.sa Sel.ha)) (pCons Sel.hc (pApp Sel.ha pNil)))))
  replace h := cf hc h
  refine wc_skip (wx_block (wx_then (wc_seq ?_)))
  refine wc_k2 (Ls := (⟨b5, [.int .u8 p2.What, .int .u64 p2.F, .int .u64 p2.Sum, .int .u64 p2.S.Frame, .int .u64 p2.S.Seed, .int .i32 p2.S.Players.1.X, .int .i32 p2.S.Players.1.Y, .int .i32 p2.S.Players.1.VX, .int .i32 p2.S.Players.1.VY, .int .u8 p2.S.Players.1.Health, .int .u8 p2.S.Players.1.Cool, .int .u8 p2.S.Players.1.Face, .int .i32 p2.S.Players.2.X, .int .i32 p2.S.Players.2.Y, .int .i32 p2.S.Players.2.VX, .int .i32 p2.S.Players.2.VY, .int .u8 p2.S.Players.2.Health, .int .u8 p2.S.Players.2.Cool, .int .u8 p2.S.Players.2.Face, .slice p2a0 p2n0 p2c0, .int .u16 p2.S.Score.1, .int .u16 p2.S.Score.2], 43, (0, 0)⟩ :: (⟨p1b, [.int .u64 p1.Rows, .slice p1a0 p1n0 p1c0, .bool p1.Clashed], p1t, (0, 0)⟩ :: (p1B0 ++ [])))) [3, 7, 8, 9] [7, 8, 9] [0, 0, 2, 7, 0, 0, 32, 127, 255, 511] [0, 1, 2, 4, 5, 6, 3, 7, 8, 9] (by kernel_rfl) (by kernel_rfl) (by kernel_rfl) ?_
  refine k_val rfl rfl rfl (pSub (pCons Sel.hc (pCons (Sel.sc (Sel.sa Sel.hc)) (pApp (Sel.sc (Sel.sa Sel.ha)) pNil)))) (stepV_ok tt_ok rfl) rfl ?_
  refine k_val (v := .pointer (some ⟨b5, 3, none⟩)) rfl rfl rfl (pSub (pCons Sel.hc (pCons (Sel.sc (Sel.sa Sel.hc)) (pApp (Sel.sc (Sel.sa Sel.ha)) pNil)))) (stepV_ok tt_ok rfl) rfl ?_
  refine k_val (v := .agg #[.int .u64 p2.S.Frame, .int .u64 p2.S.Seed, .int .i32 p2.S.Players.1.X, .int .i32 p2.S.Players.1.Y, .int .i32 p2.S.Players.1.VX, .int .i32 p2.S.Players.1.VY, .int .u8 p2.S.Players.1.Health, .int .u8 p2.S.Players.1.Cool, .int .u8 p2.S.Players.1.Face, .int .i32 p2.S.Players.2.X, .int .i32 p2.S.Players.2.Y, .int .i32 p2.S.Players.2.VX, .int .i32 p2.S.Players.2.VY, .int .u8 p2.S.Players.2.Health, .int .u8 p2.S.Players.2.Cool, .int .u8 p2.S.Players.2.Face, .slice p2a0 p2n0 p2c0, .int .u16 p2.S.Score.1, .int .u16 p2.S.Score.2]) rfl rfl rfl (pSub (pCons Sel.hc (pCons (Sel.sc (Sel.sa Sel.hc)) (pApp (Sel.sc (Sel.sa Sel.ha)) pNil)))) (val_load tt_ok rfl (List.Mem.head _) rfl) rfl ?_
  refine k_val rfl rfl rfl (pSub (pCons Sel.hc (pCons (Sel.sc (Sel.sa Sel.hc)) (pApp (Sel.sc (Sel.sa Sel.ha)) pNil)))) (stepV_ok tt_ok rfl) rfl ?_
  refine k_val (v := .pointer (some ⟨b5, 3, none⟩)) rfl rfl rfl (pSub (pCons Sel.hc (pCons (Sel.sc (Sel.sa Sel.hc)) (pApp (Sel.sc (Sel.sa Sel.ha)) pNil)))) (stepV_ok tt_ok rfl) rfl ?_
  refine k_val (v := .agg #[.int .u64 p2.S.Frame, .int .u64 p2.S.Seed, .int .i32 p2.S.Players.1.X, .int .i32 p2.S.Players.1.Y, .int .i32 p2.S.Players.1.VX, .int .i32 p2.S.Players.1.VY, .int .u8 p2.S.Players.1.Health, .int .u8 p2.S.Players.1.Cool, .int .u8 p2.S.Players.1.Face, .int .i32 p2.S.Players.2.X, .int .i32 p2.S.Players.2.Y, .int .i32 p2.S.Players.2.VX, .int .i32 p2.S.Players.2.VY, .int .u8 p2.S.Players.2.Health, .int .u8 p2.S.Players.2.Cool, .int .u8 p2.S.Players.2.Face, .slice p2a0 p2n0 p2c0, .int .u16 p2.S.Score.1, .int .u16 p2.S.Score.2]) rfl rfl rfl (pSub (pCons Sel.hc (pCons (Sel.sc (Sel.sa Sel.hc)) (pApp (Sel.sc (Sel.sa Sel.ha)) pNil)))) (val_load tt_ok rfl (List.Mem.head _) rfl) rfl ?_
  replace h := bsome h; obtain ⟨⟨o43_0, v43⟩, x43, h⟩ := h; try dsimp only at h
  refine k_cs rfl rfl rfl Tryd.call18 rfl rfl rfl (s_sp (k_watch_Watch_State (p0 := p0) (p1 := p2.S) p0N0 p0V0 p2N0 p2H0 x43) (pCons (Sel.sc Sel.hc) (pApp (Sel.sc Sel.ha) pNil)) (fun w hI => ⟨(Rds.call p2S0 (pCons (Sel.sc Sel.hc) (pApp (Sel.sc Sel.ha) pNil)) rsub_nil) w hI, (Rds.call G0S (pCons (Sel.sc Sel.hc) (pApp (Sel.sc Sel.ha) pNil)) rsub_nil) w hI, (Rds.call G1S (pCons (Sel.sc Sel.hc) (pApp (Sel.sc Sel.ha) pNil)) rsub_nil) w hI⟩)) rfl (.inr (by rintro _ _ ⟨_, ⟨_, _, _, _, _, _, rfl, rfl⟩, rfl⟩; exact ⟨_, (pCons (Sel.sc (Sel.sa Sel.hc)) (pCons (Sel.sc (Sel.sa Sel.hc)) (pApp (Sel.sc (Sel.sa Sel.ha)) pNil)))⟩)) ?_
  rintro _ _ ⟨_, ⟨o43_0a0, o43_0n0, o43_0c0, o43_0B0, o43_0N0, o43_0V0, rfl, rfl⟩, rfl⟩
  replace h := bsome h; obtain ⟨⟨o47_0, v47⟩, x47, h⟩ := h; try dsimp only at h
  refine k_cs rfl rfl rfl Tryd.call23 rfl rfl rfl (s_sp (k_hindcastref29_Watch_State (p0 := p1) (p1 := p2.S) p1N0 p1V0 p2N0 p2H0 x47) (pCons (Sel.sc (Sel.sa (Sel.sc Sel.hc))) (pApp (Sel.sc (Sel.sa (Sel.sc Sel.ha))) pNil)) (Rds.call p2S0 (pCons (Sel.sc (Sel.sa (Sel.sc Sel.hc))) (pApp (Sel.sc (Sel.sa (Sel.sc Sel.ha))) pNil)) rsub_nil)) rfl (.inl rfl) ?_
  rintro _ _ ⟨_, ⟨o47_0a0, o47_0n0, o47_0c0, o47_0B0, o47_0N0, o47_0V0, rfl, rfl⟩, rfl⟩
  refine k_chg rfl rfl rfl (Chg.of_val (v := .bool (v43 == v47)) (stepV_ok tt_ok rfl)) rfl (.inl rfl) ?_
  rintro _ _ ⟨rfl, rfl⟩
  refine k_chg rfl rfl rfl (Chg.of_val (stepV_ok tt_ok rfl)) rfl (.inl rfl) ?_
  rintro _ _ ⟨rfl, rfl⟩
  refine k_end (by kernel_rfl) ?_
  refine wx_then (wc_ret ?_)
  simp only [Option.some.injEq, Prod.mk.injEq] at h
  obtain ⟨rfl, rfl, rfl⟩ := h
  exact wx_spD tt_ok (.inl rfl) Tryd.results10 (Res.tmp rfl Res.nil) ⟨o43_0a0, o43_0n0, o43_0c0, o43_0B0, o47_0a0, o47_0n0, o47_0c0, o47_0B0, o43_0N0, o43_0V0, o47_0N0, o47_0V0, rfl, rfl⟩ (fun F => by simp) (pSub (pCons (Sel.sc (Sel.sa Sel.hc)) (pApp (Sel.sc (Sel.sa Sel.ha)) (pCons Sel.hc (pApp Sel.ha pNil)))))

theorem k_watch_Watch_Latest {F : Nat} {p0 : T_watch_Watch} {p0b p0t : Nat} {p0a0 : Option Addr} {p0n0 : Nat} {p0c0 : Nat} {p0B0 : List Blk} {r0 : Int} {r1 : Int} {r2 : Bool} (p0N0 : p0n0 = p0.l.length) (p0V0 : Own 73 5 p0a0 p0n0 p0c0 (flat c_T_watch_entry p0.l) p0B0) (h : m_watch_Watch_Latest F p0 = some (r0, r1, r2)) :
    Rd2 Tryd.prog 12 [.pointer (some ⟨p0b, 0, none⟩)] (⟨p0b, [.int .u64 p0.rows, .slice p0a0 p0n0 p0c0, .bool p0.clashed], p0t, (0, 0)⟩ :: (p0B0 ++ [])) (fun w => True) (.tuple #[.int .u64 r0, .int .u64 r1, .bool r2]) := by
  unfold m_watch_Watch_Latest at h
  refine sp_of_wc Tryd.func12 rfl Tryd.ntmps12 rfl rfl (fun w0 hR => ?_)
  refine wc_seq (wc_region ?_)
  iterate 3 refine wl_pure tt_ok rfl rfl ?_
  refine wl_nil (wx_then (wc_seq (wc_seq (wc_region ?_))))
  refine wl_pure tt_ok rfl rfl ?_
  replace h := bsome h; obtain ⟨v8, x8, h⟩ := h
  refine wl_cq Tryd.call24 rfl rfl rfl (q_rd (k_watch_Watch_is (p0 := p0) p0N0 p0V0 x8) (pCons Sel.hc (pApp Sel.ha pNil)) (fun _ _ => trivial)) rfl ?_
  refine wl_pure (v := .bool (!v8)) tt_ok rfl rfl ?_
  refine wl_nil (wx_then ?_)
  refine wc_cond rfl (fun hc => ?_) (fun hc => ?_)
  · replace h := ct hc h
    refine wc_seq (wc_region ?_)
    iterate 3 refine wl_pure tt_ok rfl rfl ?_
    refine wl_nil (wx_then (wc_ret (wx_then_ret ?_)))
    simp only [Option.some.injEq, Prod.mk.injEq] at h
    obtain ⟨rfl, rfl, rfl⟩ := h
    exact wx_rd tt_ok (.inl rfl) Tryd.results12 (Res.tmp rfl (Res.tmp rfl (Res.tmp rfl Res.nil))) (pSub (pCons Sel.hc (pApp Sel.ha pNil))) rfl
  replace h := cf hc h
  refine wc_skip (wx_then (wc_seq (wc_seq (wc_region ?_))))
  iterate 2 refine wl_pure tt_ok rfl rfl ?_
  refine wl_pure (v := .pointer (some ⟨p0b, 1, none⟩)) tt_ok rfl rfl ?_
  refine wl_val (v := .slice p0a0 p0n0 p0c0) (val_load tt_ok rfl (List.Mem.head _) rfl) rfl ?_
  refine wl_val (v := .int .i64 (p0.l.length : Int)) (val_len tt_ok rfl rfl p0N0) rfl ?_
  refine wl_pure tt_ok rfl rfl ?_
  refine wl_nil (wx_then (wc_block ?_))
  replace h := bsome h; obtain ⟨⟨l15_2, l15_3, l15_4⟩, h, hl15⟩ := h; try dsimp only at hl15
  refine wc_loop (fun m E L => ∃ (j15_2 : Int) (j15_3 : Int) (j15_4 : Bool) (j15_15 : Int), m_watch_Watch_Latest_L14 F p0 m j15_2 j15_3 j15_4 j15_15 = some (l15_2, l15_3, l15_4) ∧ E = [(2, .int .u64 j15_2), (3, .int .u64 j15_3), (4, .bool j15_4), (13, .slice p0a0 p0n0 p0c0), (14, .int .i64 (p0.l.length : Int)), (15, .int .i64 j15_15)] ∧ L = (⟨p0b, [.int .u64 p0.rows, .slice p0a0 p0n0 p0c0, .bool p0.clashed], p0t, (0, 0)⟩ :: (p0B0 ++ []))) F ⟨(0 : Int), (0 : Int), false, (0 : Int), h, rfl, rfl⟩ (agree_cons rfl (agree_cons rfl (agree_cons rfl (agree_cons rfl (agree_cons rfl (agree_cons rfl agree_nil)))))) (pSub (pCons Sel.hc (pApp Sel.ha pNil))) ?_
  clear h
  rintro m15 _ _ ⟨j15_2, j15_3, j15_4, j15_15, h, rfl, rfl⟩
  rcases m15 with _ | m15
  · rw [m_watch_Watch_Latest_L14.eq_1] at h; cases h
  rw [m_watch_Watch_Latest_L14.eq_2] at h
  refine wc_seq (wc_region ?_)
  refine wl_pure (v := .bool (decide (j15_15 < (p0.l.length : Int)))) tt_ok rfl rfl ?_
  refine wl_nil (wx_then (wc_seq ?_))
  refine wc_cond rfl (fun hc => ?_) (fun hc => ?_)
  · replace h := ct hc h
    refine wc_skip (wx_then (wc_seq (wc_block (wc_seq (wc_region ?_)))))
    replace h := bsome h; obtain ⟨v17, x17, h⟩ := h
    refine wl_val (v := .pointer (some ((adOf p0a0).add (j15_15.toNat * 5 + 0)))) (val_ix (enc := c_T_watch_entry) tt_ok rfl rfl rfl rfl p0N0 (Rds.of_vec p0V0) c_T_watch_entry_len rfl x17) rfl ?_
    refine wl_val (v := .agg #[.int .u64 v17.f, .int .u64 v17.own.n, .bool v17.own.is_, .int .u64 v17.other.n, .bool v17.other.is_]) (val_le (enc := c_T_watch_entry) (xs := p0.l) tt_ok rfl (Rds.of_vec p0V0) ⟨_, (Sel.sc Sel.ha)⟩ c_T_watch_entry_len x17 rfl) rfl ?_
    refine wl_alloc tt_ok rfl rfl (fun b6 => ?_)
    apply wl_store tt_ok; rfl; exact Upd.here; rfl; rfl; rfl; rfl; rfl; rfl
    refine wl_nil (wx_then (wc_seq (wc_region ?_)))
    refine wl_pure (v := .pointer (some ⟨b6, 1, none⟩)) tt_ok rfl rfl ?_
    refine wl_pure (v := .pointer (some ⟨b6, 2, none⟩)) tt_ok rfl rfl ?_
    refine wl_val (v := .bool v17.own.is_) (val_load tt_ok rfl (List.Mem.head _) rfl) rfl ?_
    refine wl_nil (wx_then ?_)
    refine wc_cond rfl (fun hc => ?_) (fun hc => ?_)
    · replace h := ct hc h
      refine wc_quiet (by kernel_rfl) (by kernel_rfl) ?_
      refine wq_pure (v := .pointer (some ⟨b6, 0, none⟩)) tt_ok rfl rfl ?_
      refine wq_val (v := .int .u64 v17.f) (val_load tt_ok rfl (List.Mem.head _) rfl) rfl ?_
      refine wq_pure (v := .pointer (some ⟨b6, 1, none⟩)) tt_ok rfl rfl ?_
      refine wq_pure (v := .pointer (some ⟨b6, 1, none⟩)) tt_ok rfl rfl ?_
      refine wq_val (v := .int .u64 v17.own.n) (val_load tt_ok rfl (List.Mem.head _) rfl) rfl ?_
      refine wq_pure tt_ok rfl rfl ?_
      refine wq_pure tt_ok rfl rfl ?_
      refine wq_pure tt_ok rfl rfl ?_
      refine wq_nil ?_
      refine wx_block (wx_then (wc_region ?_))
      refine wl_pure (v := .int .i64 (IntKind.wrap .i64 (j15_15 + (1 : Int)))) tt_ok rfl rfl ?_
      refine wl_pure tt_ok rfl rfl ?_
      refine wl_nil ?_
      exact wx_round m15 (Nat.lt_succ_self m15) ⟨v17.f, v17.own.n, true, (IntKind.wrap .i64 (j15_15 + (1 : Int))), h, rfl, rfl⟩ (agree_cons rfl (agree_cons rfl (agree_cons rfl (agree_cons rfl (agree_cons rfl (agree_cons rfl agree_nil)))))) (pSub (pCons (Sel.sc Sel.hc) (pApp (Sel.sc Sel.ha) pNil)))
    replace h := cf hc h
    refine wc_skip (wx_block (wx_then (wc_region ?_)))
    refine wl_pure (v := .int .i64 (IntKind.wrap .i64 (j15_15 + (1 : Int)))) tt_ok rfl rfl ?_
    refine wl_pure tt_ok rfl rfl ?_
    refine wl_nil ?_
    exact wx_round m15 (Nat.lt_succ_self m15) ⟨j15_2, j15_3, j15_4, (IntKind.wrap .i64 (j15_15 + (1 : Int))), h, rfl, rfl⟩ (agree_cons rfl (agree_cons rfl (agree_cons rfl (agree_cons rfl (agree_cons rfl (agree_cons rfl agree_nil)))))) (pSub (pCons (Sel.sc Sel.hc) (pApp (Sel.sc Sel.ha) pNil)))
  replace h := cf hc h
  refine wc_exit (wx_then_exit ?_)
  simp only [Option.some.injEq, Prod.mk.injEq] at h
  obtain ⟨rfl, rfl, rfl⟩ := h
  have h := hl15; clear hl15; try dsimp only [orE_l, orE_r] at h
  refine wx_then_exit (wx_block_exit (wx_then (wc_seq (wc_region ?_))))
  iterate 6 refine wl_pure tt_ok rfl rfl ?_
  refine wl_nil (wx_then (wc_ret ?_))
  simp only [Option.some.injEq, Prod.mk.injEq] at h
  obtain ⟨rfl, rfl, rfl⟩ := h
  exact wx_rd tt_ok (.inl rfl) Tryd.results12 (Res.tmp rfl (Res.tmp rfl (Res.tmp rfl Res.nil))) (pSub (pCons Sel.hc (pApp Sel.ha pNil))) rfl

theorem k_hindcastref29_Watch_Latest {F : Nat} {p0 : T_hindcastref29_Watch} {p0b p0t : Nat} {p0a0 : Option Addr} {p0n0 : Nat} {p0c0 : Nat} {p0B0 : List Blk} {r0 : Int} {r1 : Int} {r2 : Bool} (p0N0 : p0n0 = p0.L.length) (p0V0 : Own 77 5 p0a0 p0n0 p0c0 (flat c_T_hindcastref29_Entry p0.L) p0B0) (h : m_hindcastref29_Watch_Latest F p0 = some (r0, r1, r2)) :
    Rd2 Tryd.prog 13 [.pointer (some ⟨p0b, 0, none⟩)] (⟨p0b, [.int .u64 p0.Rows, .slice p0a0 p0n0 p0c0, .bool p0.Clashed], p0t, (0, 0)⟩ :: (p0B0 ++ [])) (fun w => True) (.tuple #[.int .u64 r0, .int .u64 r1, .bool r2]) := by
  unfold m_hindcastref29_Watch_Latest at h
  refine sp_of_wc Tryd.func13 rfl Tryd.ntmps13 rfl rfl (fun w0 hR => ?_)
  refine wc_seq (wc_region ?_)
  iterate 3 refine wl_pure tt_ok rfl rfl ?_
  refine wl_nil (wx_then (wc_seq (wc_region ?_)))
  iterate 3 refine wl_pure tt_ok rfl rfl ?_
  refine wl_nil (wx_then (wc_seq (wc_seq (wc_region ?_))))
  refine wl_pure tt_ok rfl rfl ?_
  refine wl_nil (wx_then (wc_block ?_))
  replace h := bsome h; obtain ⟨⟨l9_5, l9_6, l9_7⟩, h, hl9⟩ := h; try dsimp only at hl9
  refine wc_loop (fun m E L => ∃ (j9_5 : Int) (j9_6 : Int) (j9_7 : Bool) (j9_8 : Int), m_hindcastref29_Watch_Latest_L8 F p0 m j9_5 j9_6 j9_7 j9_8 = some (l9_5, l9_6, l9_7) ∧ E = [(0, .pointer (some ⟨p0b, 0, none⟩)), (2, .int .u64 (0 : Int)), (3, .int .u64 (0 : Int)), (4, .bool false), (5, .int .u64 j9_5), (6, .int .u64 j9_6), (7, .bool j9_7), (8, .int .i64 j9_8)] ∧ L = (⟨p0b, [.int .u64 p0.Rows, .slice p0a0 p0n0 p0c0, .bool p0.Clashed], p0t, (0, 0)⟩ :: (p0B0 ++ []))) F ⟨(0 : Int), (0 : Int), false, (0 : Int), h, rfl, rfl⟩ (agree_cons rfl (agree_cons rfl (agree_cons rfl (agree_cons rfl (agree_cons rfl (agree_cons rfl (agree_cons rfl (agree_cons rfl agree_nil)))))))) (pSub (pCons Sel.hc (pApp Sel.ha pNil))) ?_
  clear h
  rintro m9 _ _ ⟨j9_5, j9_6, j9_7, j9_8, h, rfl, rfl⟩
  rcases m9 with _ | m9
  · rw [m_hindcastref29_Watch_Latest_L8.eq_1] at h; cases h
  rw [m_hindcastref29_Watch_Latest_L8.eq_2] at h
  refine wc_seq (wc_seq (wc_region ?_))
  iterate 3 refine wl_pure tt_ok rfl rfl ?_
  refine wl_pure (v := .pointer (some ⟨p0b, 1, none⟩)) tt_ok rfl rfl ?_
  refine wl_val (v := .slice p0a0 p0n0 p0c0) (val_load tt_ok rfl (List.Mem.head _) rfl) rfl ?_
  refine wl_val (v := .int .i64 (p0.L.length : Int)) (val_len tt_ok rfl rfl p0N0) rfl ?_
  refine wl_pure (v := .bool (decide (j9_8 < (p0.L.length : Int)))) tt_ok rfl rfl ?_
  refine wl_nil (wx_then ?_)
  refine wc_cond rfl (fun hc => ?_) (fun hc => ?_)
  · replace h := ct hc h
    refine wc_skip (wx_then (wc_seq (wc_block (wc_seq (wc_region ?_)))))
    iterate 2 refine wl_pure tt_ok rfl rfl ?_
    refine wl_pure (v := .pointer (some ⟨p0b, 1, none⟩)) tt_ok rfl rfl ?_
    refine wl_val (v := .slice p0a0 p0n0 p0c0) (val_load tt_ok rfl (List.Mem.head _) rfl) rfl ?_
    refine wl_pure tt_ok rfl rfl ?_
    replace h := bsome h; obtain ⟨v24, x24, h⟩ := h
    refine wl_val (v := .pointer (some ((adOf p0a0).add (j9_8.toNat * 5 + 0)))) (val_ix (enc := c_T_hindcastref29_Entry) tt_ok rfl rfl rfl rfl p0N0 (Rds.of_vec p0V0) c_T_hindcastref29_Entry_len rfl x24) rfl ?_
    refine wl_val (v := .agg #[.int .u64 v24.F, .int .u64 v24.Sum.1, .int .u64 v24.Sum.2, .bool v24.Is.1, .bool v24.Is.2]) (val_le (enc := c_T_hindcastref29_Entry) (xs := p0.L) tt_ok rfl (Rds.of_vec p0V0) ⟨_, (Sel.sc Sel.ha)⟩ c_T_hindcastref29_Entry_len x24 rfl) rfl ?_
    refine wl_alloc tt_ok rfl rfl (fun b9 => ?_)
    apply wl_store tt_ok; rfl; exact Upd.here; rfl; rfl; rfl; rfl; rfl; rfl
    refine wl_nil (wx_then (wc_seq (wc_region ?_)))
    refine wl_pure (v := .pointer (some ⟨b9, 3, none⟩)) tt_ok rfl rfl ?_
    refine wl_val (v := .pointer (some ⟨b9, 3, none⟩)) (val_ia (j := 0) tt_ok rfl rfl rfl rfl rfl rfl rfl) rfl ?_
    refine wl_val (v := .bool v24.Is.1) (val_load tt_ok rfl (List.Mem.head _) rfl) rfl ?_
    refine wl_pure tt_ok rfl rfl ?_
    replace h := bsome h; obtain ⟨v38, h, hg38⟩ := h
    refine wl_split (t := 29) rfl (fun hc => ?_) (fun hc => ?_)
    · replace h := ct hc h
      refine wl_run rfl ?_
      refine wl_pure tt_ok rfl rfl ?_
      refine wl_run rfl ?_
      refine wl_pure (v := .bool (!j9_7)) tt_ok rfl rfl ?_
      refine wl_run rfl ?_
      refine wl_pure tt_ok rfl rfl ?_
      replace h := bsome h; obtain ⟨v37, h, hg37⟩ := h
      refine wl_split (t := 32) rfl (fun hc => ?_) (fun hc => ?_)
      · replace h := ct hc h
        refine wl_skip rfl rfl ?_
        refine wl_skip rfl rfl ?_
        refine wl_skip rfl rfl ?_
        refine wl_skip rfl rfl ?_
        simp only [Option.some.injEq, Prod.mk.injEq] at h
        obtain rfl := h
        have h := hg37; clear hg37
        refine wl_run rfl ?_
        refine wl_pure (v := .bool true) tt_ok rfl rfl ?_
        simp only [Option.some.injEq, Prod.mk.injEq] at h
        obtain rfl := h
        have h := hg38; clear hg38
        refine wl_pure (v := .bool true) tt_ok rfl rfl ?_
        refine wl_nil (wx_then ?_)
        replace h := ct rfl h
        refine wc_cond_true rfl ?_
        refine wc_seq (wc_region ?_)
        refine wl_pure (v := .pointer (some ⟨b9, 0, none⟩)) tt_ok rfl rfl ?_
        refine wl_val (v := .int .u64 v24.F) (val_load tt_ok rfl (List.Mem.head _) rfl) rfl ?_
        refine wl_pure tt_ok rfl rfl ?_
        refine wl_nil (wx_then (wc_seq (wc_region ?_)))
        refine wl_pure (v := .pointer (some ⟨b9, 1, none⟩)) tt_ok rfl rfl ?_
        refine wl_val (v := .pointer (some ⟨b9, 1, none⟩)) (val_ia (j := 0) tt_ok rfl rfl rfl rfl rfl rfl rfl) rfl ?_
        refine wl_val (v := .int .u64 v24.Sum.1) (val_load tt_ok rfl (List.Mem.head _) rfl) rfl ?_
        refine wl_pure tt_ok rfl rfl ?_
        refine wl_nil (wx_then (wc_region ?_))
        refine wl_pure tt_ok rfl rfl ?_
        refine wl_nil (wx_block (wx_then (wc_region ?_)))
        refine wl_pure tt_ok rfl rfl ?_
        refine wl_pure (v := .int .i64 (IntKind.wrap .i64 (j9_8 + (1 : Int)))) tt_ok rfl rfl ?_
        refine wl_pure tt_ok rfl rfl ?_
        refine wl_nil ?_
        exact wx_round m9 (Nat.lt_succ_self m9) ⟨v24.F, v24.Sum.1, true, (IntKind.wrap .i64 (j9_8 + (1 : Int))), h, rfl, rfl⟩ (agree_cons rfl (agree_cons rfl (agree_cons rfl (agree_cons rfl (agree_cons rfl (agree_cons rfl (agree_cons rfl (agree_cons rfl agree_nil)))))))) (pSub (pCons (Sel.sc Sel.hc) (pApp (Sel.sc Sel.ha) pNil)))
      replace h := cf hc h
      refine wl_run rfl ?_
      refine wl_pure (v := .pointer (some ⟨b9, 0, none⟩)) tt_ok rfl rfl ?_
      refine wl_run rfl ?_
      refine wl_val (v := .int .u64 v24.F) (val_load tt_ok rfl (List.Mem.head _) rfl) rfl ?_
      refine wl_run rfl ?_
      refine wl_pure tt_ok rfl rfl ?_
      refine wl_run rfl ?_
      refine wl_pure (v := .bool (decide (j9_5 < v24.F))) tt_ok rfl rfl ?_
      simp only [Option.some.injEq, Prod.mk.injEq] at h
      obtain rfl := h
      have h := hg37; clear hg37
      refine wl_run rfl ?_
      refine wl_pure (v := .bool (decide (j9_5 < v24.F))) tt_ok rfl rfl ?_
      simp only [Option.some.injEq, Prod.mk.injEq] at h
      obtain rfl := h
      have h := hg38; clear hg38
      refine wl_pure (v := .bool (decide (j9_5 < v24.F))) tt_ok rfl rfl ?_
      refine wl_nil (wx_then ?_)
      refine wc_cond rfl (fun hc => ?_) (fun hc => ?_)
      · replace h := ct hc h
        refine wc_seq (wc_region ?_)
        refine wl_pure (v := .pointer (some ⟨b9, 0, none⟩)) tt_ok rfl rfl ?_
        refine wl_val (v := .int .u64 v24.F) (val_load tt_ok rfl (List.Mem.head _) rfl) rfl ?_
        refine wl_pure tt_ok rfl rfl ?_
        refine wl_nil (wx_then (wc_seq (wc_region ?_)))
        refine wl_pure (v := .pointer (some ⟨b9, 1, none⟩)) tt_ok rfl rfl ?_
        refine wl_val (v := .pointer (some ⟨b9, 1, none⟩)) (val_ia (j := 0) tt_ok rfl rfl rfl rfl rfl rfl rfl) rfl ?_
        refine wl_val (v := .int .u64 v24.Sum.1) (val_load tt_ok rfl (List.Mem.head _) rfl) rfl ?_
        refine wl_pure tt_ok rfl rfl ?_
        refine wl_nil (wx_then (wc_region ?_))
        refine wl_pure tt_ok rfl rfl ?_
        refine wl_nil (wx_block (wx_then (wc_region ?_)))
        refine wl_pure tt_ok rfl rfl ?_
        refine wl_pure (v := .int .i64 (IntKind.wrap .i64 (j9_8 + (1 : Int)))) tt_ok rfl rfl ?_
        refine wl_pure tt_ok rfl rfl ?_
        refine wl_nil ?_
        exact wx_round m9 (Nat.lt_succ_self m9) ⟨v24.F, v24.Sum.1, true, (IntKind.wrap .i64 (j9_8 + (1 : Int))), h, rfl, rfl⟩ (agree_cons rfl (agree_cons rfl (agree_cons rfl (agree_cons rfl (agree_cons rfl (agree_cons rfl (agree_cons rfl (agree_cons rfl agree_nil)))))))) (pSub (pCons (Sel.sc Sel.hc) (pApp (Sel.sc Sel.ha) pNil)))
      replace h := cf hc h
      refine wc_skip (wx_block (wx_then (wc_region ?_)))
      refine wl_pure tt_ok rfl rfl ?_
      refine wl_pure (v := .int .i64 (IntKind.wrap .i64 (j9_8 + (1 : Int)))) tt_ok rfl rfl ?_
      refine wl_pure tt_ok rfl rfl ?_
      refine wl_nil ?_
      exact wx_round m9 (Nat.lt_succ_self m9) ⟨j9_5, j9_6, j9_7, (IntKind.wrap .i64 (j9_8 + (1 : Int))), h, rfl, rfl⟩ (agree_cons rfl (agree_cons rfl (agree_cons rfl (agree_cons rfl (agree_cons rfl (agree_cons rfl (agree_cons rfl (agree_cons rfl agree_nil)))))))) (pSub (pCons (Sel.sc Sel.hc) (pApp (Sel.sc Sel.ha) pNil)))
    replace h := cf hc h
    refine wl_skip rfl rfl ?_
    refine wl_skip rfl rfl ?_
    refine wl_skip rfl rfl ?_
    refine wl_skip rfl rfl ?_
    refine wl_skip rfl rfl ?_
    refine wl_skip rfl rfl ?_
    refine wl_skip rfl rfl ?_
    refine wl_skip rfl rfl ?_
    simp only [Option.some.injEq, Prod.mk.injEq] at h
    obtain rfl := h
    have h := hg38; clear hg38
    refine wl_pure (v := .bool false) tt_ok rfl rfl ?_
    refine wl_nil (wx_then ?_)
    replace h := cf rfl h
    refine wc_cond_false rfl ?_
    refine wc_skip (wx_block (wx_then (wc_region ?_)))
    refine wl_pure tt_ok rfl rfl ?_
    refine wl_pure (v := .int .i64 (IntKind.wrap .i64 (j9_8 + (1 : Int)))) tt_ok rfl rfl ?_
    refine wl_pure tt_ok rfl rfl ?_
    refine wl_nil ?_
    exact wx_round m9 (Nat.lt_succ_self m9) ⟨j9_5, j9_6, j9_7, (IntKind.wrap .i64 (j9_8 + (1 : Int))), h, rfl, rfl⟩ (agree_cons rfl (agree_cons rfl (agree_cons rfl (agree_cons rfl (agree_cons rfl (agree_cons rfl (agree_cons rfl (agree_cons rfl agree_nil)))))))) (pSub (pCons (Sel.sc Sel.hc) (pApp (Sel.sc Sel.ha) pNil)))
  replace h := cf hc h
  refine wc_exit (wx_then_exit ?_)
  simp only [Option.some.injEq, Prod.mk.injEq] at h
  obtain ⟨rfl, rfl, rfl⟩ := h
  have h := hl9; clear hl9; try dsimp only [orE_l, orE_r] at h
  refine wx_then_exit (wx_block_exit (wx_then (wc_seq (wc_region ?_))))
  iterate 6 refine wl_pure tt_ok rfl rfl ?_
  refine wl_nil (wx_then (wc_ret ?_))
  simp only [Option.some.injEq, Prod.mk.injEq] at h
  obtain ⟨rfl, rfl, rfl⟩ := h
  exact wx_rd tt_ok (.inl rfl) Tryd.results13 (Res.tmp rfl (Res.tmp rfl (Res.tmp rfl Res.nil))) (pSub (pCons Sel.hc (pApp Sel.ha pNil))) rfl

end Go.Proofs.YthlnellnlhkphaaDoor
