/-
  Each function computes what its model says. Printed by a program of this claim's own.
-/
import Derived.Test.YtekplmhmppdpcaaDoorTab
import Derived.Test.YtekplmhmppdpcaaDoorMod
import Derived.Test.YtekplmhmppdpcaaDoorWalk1
namespace Go.Proofs.YtekplmhmppdpcaaDoor
open Go.Proofs.YtekplmhmppdpcaaDoor.Eng
set_option linter.unusedVariables false
set_option linter.unusedSimpArgs false
set_option maxHeartbeats 4000000
set_option maxRecDepth 20000

theorem k_state_shot {F : Nat} {p0 : (List Int)} {p0a0 : Option Addr} {p0n0 p0c0 : Nat} {r0 : T_api_Shot} (p0N0 : p0n0 = p0.length) (p0H0 : p0n0 ≤ p0c0) (h : m_state_shot F p0 = some r0) :
    Pf Tryd.prog 46 [.slice p0a0 p0n0 p0c0] (fun w => Rds w [] [] p0a0 (flat (e1 .i32) p0)) (.agg #[.int .i32 r0.X, .int .i32 r0.Y, .int .i32 r0.VX, .int .i32 r0.VY, .int .u8 r0.Owner, .int .u8 r0.Life]) := by
  unfold m_state_shot at h
  refine pf_of_wc Tryd.func46 rfl Tryd.ntmps46 rfl rfl (fun w0 hR => ?_)
  have p0S0 := hR
  refine wc_seq ?_
  refine wc_region ?_
  refine wl_alloc tt_ok rfl rfl (fun b2 => ?_)
  refine wl_nil ?_
  refine wx_then ?_
  refine wc_seq ?_
  refine wc_k2 (Ls := (⟨b2, [.int .i32 (0 : Int), .int .i32 (0 : Int), .int .i32 (0 : Int), .int .i32 (0 : Int), .int .u8 (0 : Int), .int .u8 (0 : Int)], 50, (0, 0)⟩ :: [])) [21] [21] [0, 1, 3, 0, 8, 24, 0, 64, 192, 0, 512, 1536, 0, 4096, 12288, 28672, 0, 65536, 196608, 458752, 1048575, 2097151] [0, 1, 2, 3, 4, 5, 6, 7, 8, 9, 10, 11, 12, 13, 14, 15, 16, 17, 18, 19, 20, 21] (by kernel_rfl) (by kernel_rfl) (by kernel_rfl) ?_
  refine k_val rfl rfl rfl (pSub (pCons Sel.hc pNil)) (stepV_ok tt_ok rfl) rfl ?_
  replace h := bsome h; obtain ⟨v4, x4, h⟩ := h
  refine k_val (v := .pointer (some ((adOf p0a0).add ((0 : Int).toNat * 1 + 0)))) rfl rfl rfl (pSub (pCons Sel.hc pNil)) (val_ix (enc := (e1 .i32)) tt_ok rfl rfl rfl rfl p0N0 p0S0 (e1_len _) rfl x4) rfl ?_
  refine k_val (v := .int .i32 v4) rfl rfl rfl (pSub (pCons Sel.hc pNil)) (val_le (enc := (e1 .i32)) (xs := p0) tt_ok rfl p0S0 rsub_nil (e1_len _) x4 rfl) rfl ?_
  refine k_val rfl rfl rfl (pSub (pCons Sel.hc pNil)) (stepV_ok tt_ok rfl) rfl ?_
  replace h := bsome h; obtain ⟨v7, x7, h⟩ := h
  refine k_val (v := .pointer (some ((adOf p0a0).add ((1 : Int).toNat * 1 + 0)))) rfl rfl rfl (pSub (pCons Sel.hc pNil)) (val_ix (enc := (e1 .i32)) tt_ok rfl rfl rfl rfl p0N0 p0S0 (e1_len _) rfl x7) rfl ?_
  refine k_val (v := .int .i32 v7) rfl rfl rfl (pSub (pCons Sel.hc pNil)) (val_le (enc := (e1 .i32)) (xs := p0) tt_ok rfl p0S0 rsub_nil (e1_len _) x7 rfl) rfl ?_
  refine k_val rfl rfl rfl (pSub (pCons Sel.hc pNil)) (stepV_ok tt_ok rfl) rfl ?_
  replace h := bsome h; obtain ⟨v10, x10, h⟩ := h
  refine k_val (v := .pointer (some ((adOf p0a0).add ((2 : Int).toNat * 1 + 0)))) rfl rfl rfl (pSub (pCons Sel.hc pNil)) (val_ix (enc := (e1 .i32)) tt_ok rfl rfl rfl rfl p0N0 p0S0 (e1_len _) rfl x10) rfl ?_
  refine k_val (v := .int .i32 v10) rfl rfl rfl (pSub (pCons Sel.hc pNil)) (val_le (enc := (e1 .i32)) (xs := p0) tt_ok rfl p0S0 rsub_nil (e1_len _) x10 rfl) rfl ?_
  refine k_val rfl rfl rfl (pSub (pCons Sel.hc pNil)) (stepV_ok tt_ok rfl) rfl ?_
  replace h := bsome h; obtain ⟨v13, x13, h⟩ := h
  refine k_val (v := .pointer (some ((adOf p0a0).add ((3 : Int).toNat * 1 + 0)))) rfl rfl rfl (pSub (pCons Sel.hc pNil)) (val_ix (enc := (e1 .i32)) tt_ok rfl rfl rfl rfl p0N0 p0S0 (e1_len _) rfl x13) rfl ?_
  refine k_val (v := .int .i32 v13) rfl rfl rfl (pSub (pCons Sel.hc pNil)) (val_le (enc := (e1 .i32)) (xs := p0) tt_ok rfl p0S0 rsub_nil (e1_len _) x13 rfl) rfl ?_
  refine k_val rfl rfl rfl (pSub (pCons Sel.hc pNil)) (stepV_ok tt_ok rfl) rfl ?_
  replace h := bsome h; obtain ⟨v16, x16, h⟩ := h
  refine k_val (v := .pointer (some ((adOf p0a0).add ((4 : Int).toNat * 1 + 0)))) rfl rfl rfl (pSub (pCons Sel.hc pNil)) (val_ix (enc := (e1 .i32)) tt_ok rfl rfl rfl rfl p0N0 p0S0 (e1_len _) rfl x16) rfl ?_
  refine k_val (v := .int .i32 v16) rfl rfl rfl (pSub (pCons Sel.hc pNil)) (val_le (enc := (e1 .i32)) (xs := p0) tt_ok rfl p0S0 rsub_nil (e1_len _) x16 rfl) rfl ?_
  refine k_val (v := .int .u8 (IntKind.wrap .u8 v16)) rfl rfl rfl (pSub (pCons Sel.hc pNil)) (stepV_ok tt_ok rfl) rfl ?_
  refine k_val rfl rfl rfl (pSub (pCons Sel.hc pNil)) (stepV_ok tt_ok rfl) rfl ?_
  replace h := bsome h; obtain ⟨v20, x20, h⟩ := h
  refine k_val (v := .pointer (some ((adOf p0a0).add ((5 : Int).toNat * 1 + 0)))) rfl rfl rfl (pSub (pCons Sel.hc pNil)) (val_ix (enc := (e1 .i32)) tt_ok rfl rfl rfl rfl p0N0 p0S0 (e1_len _) rfl x20) rfl ?_
  refine k_val (v := .int .i32 v20) rfl rfl rfl (pSub (pCons Sel.hc pNil)) (val_le (enc := (e1 .i32)) (xs := p0) tt_ok rfl p0S0 rsub_nil (e1_len _) x20 rfl) rfl ?_
  refine k_val (v := .int .u8 (IntKind.wrap .u8 v20)) rfl rfl rfl (pSub (pCons Sel.hc pNil)) (stepV_ok tt_ok rfl) rfl ?_
  refine k_val (v := .agg #[.int .i32 v4, .int .i32 v7, .int .i32 v10, .int .i32 v13, .int .u8 (IntKind.wrap .u8 v16), .int .u8 (IntKind.wrap .u8 v20)]) rfl rfl rfl (pSub (pCons Sel.hc pNil)) (stepV_ok tt_ok rfl) rfl ?_
  refine k_chg0 rfl rfl rfl (chg_store tt_ok rfl Upd.here rfl rfl rfl rfl rfl rfl) (.inl rfl) ?_
  rintro _ _ rfl
  refine k_end (by kernel_rfl) ?_
  refine wx_then ?_
  refine wc_ret ?_
  simp only [Option.some.injEq] at h
  obtain rfl := h
  exact wx_pf tt_ok (.inl rfl) Tryd.results46 (Res.cell rfl (List.Mem.head _) rfl Res.nil) rfl

theorem k_state_take_api_Shot_f2_state_shot {F : Nat} {p0 : T_codec_Reader} {p0b p0t : Nat} {p1 : Int} {r0 : T_codec_Reader} {r1 : T_api_Shot} (h : m_state_take_api_Shot_f2_state_shot F p0 p1 = some (r0, r1)) :
    SpD Tryd.prog 45 [.pointer (some ⟨p0b, 0, none⟩), .int .i64 p1, .func (.func 46) #[] #[]] (⟨p0b, [.string ⟨p0.left.s.toArray⟩, .int .i64 p0.left.e], p0t, (0, 0)⟩ :: []) (fun w => True) (fun v D => v = .agg #[.int .i32 r1.X, .int .i32 r1.Y, .int .i32 r1.VX, .int .i32 r1.VY, .int .u8 r1.Owner, .int .u8 r1.Life] ∧ D = fun F => (⟨p0b, [.string ⟨r0.left.s.toArray⟩, .int .i64 r0.left.e], p0t, (0, 0)⟩ :: F)) := by
  unfold m_state_take_api_Shot_f2_state_shot at h
  refine sp_of_wc Tryd.func45 rfl Tryd.ntmps45 rfl rfl (fun w0 hR => ?_)
  refine wc_seq ?_
  refine wc_region ?_
  refine wl_alloc tt_ok rfl rfl (fun b6 => ?_)
  refine wl_nil ?_
  refine wx_then ?_
  refine wc_seq ?_
  refine wc_region ?_
  refine wl_pure tt_ok rfl rfl ?_
  replace h := bsome h; obtain ⟨v10, x10, h⟩ := h
  refine wl_chg (chg_make (enc := (e1 .i32)) tt_ok rfl rfl rfl rfl rfl rfl (e1_len _) rfl x10) rfl ?_
  rintro _ _ ⟨a10, n10_, c10, B10, rfl, N10, V10, rfl⟩
  refine wl_pure tt_ok rfl rfl ?_
  refine wl_nil ?_
  refine wx_then ?_
  refine wc_seq ?_
  refine wc_seq ?_
  refine wc_region ?_
  refine wl_pure tt_ok rfl rfl ?_
  refine wl_pure tt_ok rfl rfl ?_
  refine wl_nil ?_
  refine wx_then ?_
  refine wc_block ?_
  replace h := bsome h; obtain ⟨⟨l9_7, l9_p0⟩, h, hl9⟩ := h; try dsimp only at hl9
  refine wc_loop (fun m E L => ∃ (j9_12 : Int) (j9_7 : (List Int)) (j9_p0 : T_codec_Reader) (j9_7a0 : Option Addr) (j9_7n0 : Nat) (j9_7c0 : Nat) (j9_7B0 : List Blk), m_state_take_api_Shot_f2_state_shot_L8 F p1 m j9_12 j9_7 j9_p0 = some (l9_7, l9_p0) ∧ j9_7n0 = j9_7.length ∧ Own 21 1 j9_7a0 j9_7n0 j9_7c0 (flat (e1 .i32) j9_7) j9_7B0 ∧ E = [(0, .pointer (some ⟨p0b, 0, none⟩)), (2, .func (.func 46) #[] #[]), (6, .pointer (some ⟨b6, 0, none⟩)), (7, .slice j9_7a0 j9_7n0 j9_7c0), (11, .int .i64 p1), (12, .int .i64 j9_12)] ∧ L = (⟨p0b, [.string ⟨j9_p0.left.s.toArray⟩, .int .i64 j9_p0.left.e], p0t, (0, 0)⟩ :: (⟨b6, [.int .i32 (0 : Int), .int .i32 (0 : Int), .int .i32 (0 : Int), .int .i32 (0 : Int), .int .u8 (0 : Int), .int .u8 (0 : Int)], 50, (0, 0)⟩ :: (j9_7B0 ++ [])))) F ⟨(0 : Int), v10, p0, a10, n10_, c10, B10, h, N10, V10, rfl, rfl⟩ (agree_cons rfl (agree_cons rfl (agree_cons rfl (agree_cons rfl (agree_cons rfl (agree_cons rfl agree_nil)))))) (pSub (pCons (Sel.sa (Sel.sc Sel.hc)) (pCons (Sel.sa Sel.hc) (pApp Sel.ha pNil)))) ?_
  clear h
  rintro m9 _ _ ⟨j9_12, j9_7, j9_p0, j9_7a0, j9_7n0, j9_7c0, j9_7B0, h, j9_7N0, j9_7V0, rfl, rfl⟩
  rcases m9 with _ | m9
  · rw [m_state_take_api_Shot_f2_state_shot_L8.eq_1] at h; cases h
  rw [m_state_take_api_Shot_f2_state_shot_L8.eq_2] at h
  refine wc_seq ?_
  refine wc_region ?_
  refine wl_pure (v := .bool (decide (j9_12 < p1))) tt_ok rfl rfl ?_
  refine wl_nil ?_
  refine wx_then ?_
  refine wc_seq ?_
  refine wc_cond rfl (fun hc => ?_) (fun hc => ?_)
  · replace h := ct hc h
    refine wc_skip ?_
    refine wx_then ?_
    refine wc_seq ?_
    refine wc_block ?_
    refine wc_seq ?_
    refine wc_region ?_
    refine wl_pure tt_ok rfl rfl ?_
    refine wl_pure tt_ok rfl rfl ?_
    refine wl_nil ?_
    refine wx_then ?_
    refine wc_seq ?_
    refine wc_region ?_
    refine wl_pure tt_ok rfl rfl ?_
    refine wl_pure (v := .bool (decide (j9_12 < (4 : Int)))) tt_ok rfl rfl ?_
    refine wl_nil ?_
    refine wx_then ?_
    refine wc_cond rfl (fun hc => ?_) (fun hc => ?_)
    · replace h := ct hc h
      refine wc_region ?_
      refine wl_pure tt_ok rfl rfl ?_
      refine wl_pure tt_ok rfl rfl ?_
      refine wl_pure tt_ok rfl rfl ?_
      replace h := bsome h; obtain ⟨⟨o20_0, v20⟩, x20, h⟩ := h; try dsimp only at h
      refine wl_cs Tryd.call64 rfl rfl rfl (s_sp (k_codec_Reader_I32 x20) (pCons Sel.hc pNil) (fun _ _ => trivial)) rfl ?_
      rintro _ _ ⟨_, ⟨rfl, rfl⟩, rfl⟩
      replace h := bsome h; obtain ⟨v21, x21, h⟩ := h
      refine wl_val (v := .pointer (some ((adOf j9_7a0).add (j9_12.toNat * 1 + 0)))) (val_ix (enc := (e1 .i32)) tt_ok rfl rfl rfl rfl j9_7N0 (Rds.of_vec j9_7V0) (e1_len _) rfl x21) rfl ?_
      refine wl_chg0 (chg_ste (enc := (e1 .i32)) (y' := v20) tt_ok rfl rfl rfl rfl rfl rfl j9_7N0 j9_7V0 (Sel.sc (Sel.sc Sel.ha)) (e1_len _) x21 rfl (by intro h; cases h)) ?_
      rintro _ _ ⟨Bs23_5, Ns23_5, Vs23_5, rfl⟩
      refine wl_nil ?_
      refine wx_block ?_
      refine wx_then ?_
      refine wc_region ?_
      refine wl_pure (v := .int .i64 (IntKind.wrap .i64 (j9_12 + (1 : Int)))) tt_ok rfl rfl ?_
      refine wl_pure tt_ok rfl rfl ?_
      refine wl_nil ?_
      exact wx_round m9 (Nat.lt_succ_self m9) ⟨(IntKind.wrap .i64 (j9_12 + (1 : Int))), (setI j9_7 j9_12 v20), o20_0, j9_7a0, j9_7n0, j9_7c0, Bs23_5, h, Ns23_5, Vs23_5, rfl, rfl⟩ (agree_cons rfl (agree_cons rfl (agree_cons rfl (agree_cons rfl (agree_cons rfl (agree_cons rfl agree_nil)))))) (pSub (pCons (Sel.sa Sel.hc) (pCons (Sel.sa Sel.hc) (pApp Sel.ha pNil))))
    replace h := cf hc h
    refine wc_region ?_
    refine wl_pure tt_ok rfl rfl ?_
    refine wl_pure tt_ok rfl rfl ?_
    refine wl_pure tt_ok rfl rfl ?_
    replace h := bsome h; obtain ⟨⟨o25_0, v25⟩, x25, h⟩ := h; try dsimp only at h
    refine wl_cs Tryd.call65 rfl rfl rfl (s_sp (k_codec_Reader_U8 x25) (pCons Sel.hc pNil) (fun _ _ => trivial)) rfl ?_
    rintro _ _ ⟨_, ⟨rfl, rfl⟩, rfl⟩
    refine wl_pure (v := .int .i32 (IntKind.wrap .i32 v25)) tt_ok rfl rfl ?_
    replace h := bsome h; obtain ⟨v27, x27, h⟩ := h
    refine wl_val (v := .pointer (some ((adOf j9_7a0).add (j9_12.toNat * 1 + 0)))) (val_ix (enc := (e1 .i32)) tt_ok rfl rfl rfl rfl j9_7N0 (Rds.of_vec j9_7V0) (e1_len _) rfl x27) rfl ?_
    refine wl_chg0 (chg_ste (enc := (e1 .i32)) (y' := (IntKind.wrap .i32 v25)) tt_ok rfl rfl rfl rfl rfl rfl j9_7N0 j9_7V0 (Sel.sc (Sel.sc Sel.ha)) (e1_len _) x27 rfl (by intro h; cases h)) ?_
    rintro _ _ ⟨Bs24_6, Ns24_6, Vs24_6, rfl⟩
    refine wl_nil ?_
    refine wx_block ?_
    refine wx_then ?_
    refine wc_region ?_
    refine wl_pure (v := .int .i64 (IntKind.wrap .i64 (j9_12 + (1 : Int)))) tt_ok rfl rfl ?_
    refine wl_pure tt_ok rfl rfl ?_
    refine wl_nil ?_
    exact wx_round m9 (Nat.lt_succ_self m9) ⟨(IntKind.wrap .i64 (j9_12 + (1 : Int))), (setI j9_7 j9_12 (IntKind.wrap .i32 v25)), o25_0, j9_7a0, j9_7n0, j9_7c0, Bs24_6, h, Ns24_6, Vs24_6, rfl, rfl⟩ (agree_cons rfl (agree_cons rfl (agree_cons rfl (agree_cons rfl (agree_cons rfl (agree_cons rfl agree_nil)))))) (pSub (pCons (Sel.sa Sel.hc) (pCons (Sel.sa Sel.hc) (pApp Sel.ha pNil))))
  replace h := cf hc h
  refine wc_exit ?_
  refine wx_then_exit ?_
  simp only [Option.some.injEq, Prod.mk.injEq] at h
  obtain ⟨rfl, rfl⟩ := h
  have h := hl9; clear hl9; try dsimp only [orE_l, orE_r] at h
  refine wx_then_exit ?_
  refine wx_block_exit ?_
  refine wx_then ?_
  refine wc_seq ?_
  refine wc_region ?_
  refine wl_pure tt_ok rfl rfl ?_
  refine wl_pure tt_ok rfl rfl ?_
  replace h := bsome h; obtain ⟨v31, x31, h⟩ := h
  refine wl_cq Tryd.call46 rfl rfl rfl (q_pf (k_state_shot (p0 := j9_7) j9_7N0 (vec_cap j9_7V0) x31) (Rds.call (Rds.of_vec j9_7V0) pNil ⟨_, (Sel.sc (Sel.sc Sel.ha))⟩)) rfl ?_
  apply wl_store tt_ok; rfl; exact (Upd.there Upd.here); rfl; rfl; rfl; rfl; rfl; rfl
  refine wl_nil ?_
  refine wx_then ?_
  refine wc_ret ?_
  simp only [Option.some.injEq, Prod.mk.injEq] at h
  obtain ⟨rfl, rfl⟩ := h
  exact wx_spD tt_ok (.inl rfl) Tryd.results45 (Res.cell rfl (List.Mem.tail _ (List.Mem.head _)) rfl Res.nil) ⟨rfl, rfl⟩ (fun F => by simp) (pSub (pCons Sel.hc pNil))

theorem k_codec_get_uint16 {F : Nat} {p0 : T_codec_Reader} {p0b p0t : Nat} {p1 : Int} {r0 : T_codec_Reader} {r1 : Int} (h : m_codec_get_uint16 F p0 p1 = some (r0, r1)) :
    SpD Tryd.prog 68 [.pointer (some ⟨p0b, 0, none⟩), .int .i64 p1] (⟨p0b, [.string ⟨p0.left.s.toArray⟩, .int .i64 p0.left.e], p0t, (0, 0)⟩ :: []) (fun w => True) (fun v D => v = .int .u16 r1 ∧ D = fun F => (⟨p0b, [.string ⟨r0.left.s.toArray⟩, .int .i64 r0.left.e], p0t, (0, 0)⟩ :: F)) := by
  unfold m_codec_get_uint16 at h
  refine sp_of_wc Tryd.func68 rfl Tryd.ntmps68 rfl rfl (fun w0 hR => ?_)
  refine wc_seq ?_
  refine wc_region ?_
  refine wl_pure tt_ok rfl rfl ?_
  refine wl_nil ?_
  refine wx_then ?_
  refine wc_seq ?_
  refine wc_seq ?_
  refine wc_region ?_
  refine wl_pure tt_ok rfl rfl ?_
  refine wl_pure (v := .bool false) tt_ok rfl rfl ?_
  refine wl_nil ?_
  refine wx_then ?_
  refine wc_cond_false rfl ?_
  refine wc_skip ?_
  refine wx_then ?_
  refine wc_seq ?_
  refine wc_region ?_
  refine wl_pure tt_ok rfl rfl ?_
  refine wl_pure tt_ok rfl rfl ?_
  refine wl_pure (v := .pointer (some ⟨p0b, 0, none⟩)) tt_ok rfl rfl ?_
  refine wl_pure tt_ok rfl rfl ?_
  refine wl_pure (v := .int .u64 (IntKind.wrap .u64 p1)) tt_ok rfl rfl ?_
  replace h := bsome h; obtain ⟨⟨o16_0, v16_0, v16_1⟩, x16, h⟩ := h; try dsimp only at h
  refine wl_cs Tryd.call66 rfl rfl rfl (s_sp (k_codec_left_take x16) (pCons Sel.hc pNil) (fun _ _ => trivial)) rfl ?_
  rintro _ _ ⟨_, ⟨rfl, rfl⟩, rfl⟩
  refine wl_pure tt_ok rfl rfl ?_
  refine wl_pure tt_ok rfl rfl ?_
  refine wl_pure tt_ok rfl rfl ?_
  refine wl_pure tt_ok rfl rfl ?_
  refine wl_pure tt_ok rfl rfl ?_
  refine wl_nil ?_
  refine wx_then ?_
  refine wc_seq ?_
  refine wc_seq ?_
  refine wc_region ?_
  refine wl_pure tt_ok rfl rfl ?_
  refine wl_pure (v := .int .i64 (v16_0.length : Int)) tt_ok rfl rfl ?_
  refine wl_pure tt_ok rfl rfl ?_
  refine wl_nil ?_
  refine wx_then ?_
  refine wc_block ?_
  replace h := bsome h; obtain ⟨l17_4, h, hl17⟩ := h
  refine wc_loop (fun m E L => ∃ (j17_4 : Int) (j17_21 : Int), m_codec_get_uint16_L16 F v16_0 m j17_4 j17_21 = some l17_4 ∧ E = [(4, .int .u16 j17_4), (5, .string ⟨v16_0.toArray⟩), (20, .int .i64 (v16_0.length : Int)), (21, .int .i64 j17_21)] ∧ L = (⟨p0b, [.string ⟨o16_0.s.toArray⟩, .int .i64 o16_0.e], p0t, (0, 0)⟩ :: [])) F ⟨(0 : Int), (0 : Int), h, rfl, rfl⟩ (agree_cons rfl (agree_cons rfl (agree_cons rfl (agree_cons rfl agree_nil)))) (pSub (pCons Sel.hc pNil)) ?_
  clear h
  rintro m17 _ _ ⟨j17_4, j17_21, h, rfl, rfl⟩
  rcases m17 with _ | m17
  · rw [m_codec_get_uint16_L16.eq_1] at h; cases h
  rw [m_codec_get_uint16_L16.eq_2] at h
  refine wc_seq ?_
  refine wc_region ?_
  refine wl_pure (v := .bool (decide (j17_21 < (v16_0.length : Int)))) tt_ok rfl rfl ?_
  refine wl_nil ?_
  refine wx_then ?_
  refine wc_seq ?_
  refine wc_cond rfl (fun hc => ?_) (fun hc => ?_)
  · replace h := ct hc h
    refine wc_skip ?_
    refine wx_then ?_
    refine wc_seq ?_
    refine wc_block ?_
    refine wc_seq ?_
    refine wc_region ?_
    refine wl_pure tt_ok rfl rfl ?_
    refine wl_pure tt_ok rfl rfl ?_
    refine wl_nil ?_
    refine wx_then ?_
    refine wc_region ?_
    refine wl_pure tt_ok rfl rfl ?_
    refine wl_pure tt_ok rfl rfl ?_
    refine wl_pure tt_ok rfl rfl ?_
    replace h := bsome h; obtain ⟨v27, x27, h⟩ := h
    refine wl_val (v := .int .u8 (v27.toNat : Int)) (val_sx tt_ok rfl rfl rfl x27) rfl ?_
    refine wl_pure (v := .int .u64 (IntKind.wrap .u64 (v27.toNat : Int))) tt_ok rfl rfl ?_
    refine wl_pure tt_ok rfl rfl ?_
    refine wl_pure (v := .int .i64 (IntKind.wrap .i64 ((8 : Int) * j17_21))) tt_ok rfl rfl ?_
    replace h := bsome h; obtain ⟨v31, x31, h⟩ := h
    refine wl_val (v := .int .u64 v31) (val_shl rfl rfl x31) rfl ?_
    refine wl_pure (v := .int .u16 (IntKind.wrap .u16 v31)) tt_ok rfl rfl ?_
    refine wl_pure (v := .int .u16 (bits .or .u16 j17_4 (IntKind.wrap .u16 v31))) tt_ok rfl rfl ?_
    refine wl_pure tt_ok rfl rfl ?_
    refine wl_nil ?_
    refine wx_block ?_
    refine wx_then ?_
    refine wc_region ?_
    refine wl_pure (v := .int .i64 (IntKind.wrap .i64 (j17_21 + (1 : Int)))) tt_ok rfl rfl ?_
    refine wl_pure tt_ok rfl rfl ?_
    refine wl_nil ?_
    exact wx_round m17 (Nat.lt_succ_self m17) ⟨(bits .or .u16 j17_4 (IntKind.wrap .u16 v31)), (IntKind.wrap .i64 (j17_21 + (1 : Int))), h, rfl, rfl⟩ (agree_cons rfl (agree_cons rfl (agree_cons rfl (agree_cons rfl agree_nil)))) (pSub (pCons Sel.hc pNil))
  replace h := cf hc h
  refine wc_exit ?_
  refine wx_then_exit ?_
  simp only [Option.some.injEq] at h
  obtain rfl := h
  have h := hl17; clear hl17; try dsimp only [orE_l, orE_r] at h
  refine wx_then_exit ?_
  refine wx_block_exit ?_
  refine wx_then ?_
  refine wc_seq ?_
  refine wc_region ?_
  refine wl_pure tt_ok rfl rfl ?_
  refine wl_pure tt_ok rfl rfl ?_
  refine wl_nil ?_
  refine wx_then ?_
  refine wc_ret ?_
  simp only [Option.some.injEq, Prod.mk.injEq] at h
  obtain ⟨rfl, rfl⟩ := h
  exact wx_spD tt_ok (.inl rfl) Tryd.results68 (Res.tmp rfl Res.nil) ⟨rfl, rfl⟩ (fun F => by simp) (pSub (pCons Sel.hc pNil))

theorem k_codec_Reader_U16 {F : Nat} {p0 : T_codec_Reader} {p0b p0t : Nat} {r0 : T_codec_Reader} {r1 : Int} (h : m_codec_Reader_U16 F p0 = some (r0, r1)) :
    SpD Tryd.prog 47 [.pointer (some ⟨p0b, 0, none⟩)] (⟨p0b, [.string ⟨p0.left.s.toArray⟩, .int .i64 p0.left.e], p0t, (0, 0)⟩ :: []) (fun w => True) (fun v D => v = .int .u16 r1 ∧ D = fun F => (⟨p0b, [.string ⟨r0.left.s.toArray⟩, .int .i64 r0.left.e], p0t, (0, 0)⟩ :: F)) := by
  unfold m_codec_Reader_U16 at h
  refine sp_of_wc Tryd.func47 rfl Tryd.ntmps47 rfl rfl (fun w0 hR => ?_)
  refine wc_seq ?_
  refine wc_region ?_
  refine wl_pure tt_ok rfl rfl ?_
  refine wl_nil ?_
  refine wx_then ?_
  refine wc_seq ?_
  refine wc_region ?_
  refine wl_pure tt_ok rfl rfl ?_
  replace h := bsome h; obtain ⟨⟨o4_0, v4⟩, x4, h⟩ := h; try dsimp only at h
  refine wl_cs Tryd.call68 rfl rfl rfl (s_sp (k_codec_get_uint16 x4) (pCons Sel.hc pNil) (fun _ _ => trivial)) rfl ?_
  rintro _ _ ⟨_, ⟨rfl, rfl⟩, rfl⟩
  refine wl_pure tt_ok rfl rfl ?_
  refine wl_nil ?_
  refine wx_then ?_
  refine wc_ret ?_
  simp only [Option.some.injEq, Prod.mk.injEq] at h
  obtain ⟨rfl, rfl⟩ := h
  exact wx_spD tt_ok (.inl rfl) Tryd.results47 (Res.tmp rfl Res.nil) ⟨rfl, rfl⟩ (fun F => by simp) (pSub (pCons Sel.hc pNil))

theorem k_codec_Reader_Err {F : Nat} {p0 : T_codec_Reader} {p0b p0t : Nat} {r0 : Int} (h : m_codec_Reader_Err F p0 = some r0) :
    Rd2 Tryd.prog 48 [.pointer (some ⟨p0b, 0, none⟩)] (⟨p0b, [.string ⟨p0.left.s.toArray⟩, .int .i64 p0.left.e], p0t, (0, 0)⟩ :: []) (fun w => True) (.int .i64 r0) := by
  unfold m_codec_Reader_Err at h
  refine sp_of_wc Tryd.func48 rfl Tryd.ntmps48 rfl rfl (fun w0 hR => ?_)
  refine wc_seq ?_
  refine wc_region ?_
  refine wl_pure tt_ok rfl rfl ?_
  refine wl_nil ?_
  refine wx_then ?_
  refine wc_seq ?_
  refine wc_seq ?_
  refine wc_region ?_
  refine wl_pure tt_ok rfl rfl ?_
  refine wl_pure (v := .bool false) tt_ok rfl rfl ?_
  refine wl_nil ?_
  refine wx_then ?_
  refine wc_cond_false rfl ?_
  refine wc_skip ?_
  refine wx_then ?_
  refine wc_seq ?_
  refine wc_region ?_
  refine wl_pure tt_ok rfl rfl ?_
  refine wl_pure tt_ok rfl rfl ?_
  refine wl_pure (v := .pointer (some ⟨p0b, 0, none⟩)) tt_ok rfl rfl ?_
  refine wl_pure (v := .pointer (some ⟨p0b, 1, none⟩)) tt_ok rfl rfl ?_
  refine wl_val (v := .int .i64 p0.left.e) (val_load tt_ok rfl (List.Mem.head _) rfl) rfl ?_
  refine wl_pure tt_ok rfl rfl ?_
  refine wl_nil ?_
  refine wx_then ?_
  refine wc_ret ?_
  simp only [Option.some.injEq] at h
  obtain rfl := h
  exact wx_rd tt_ok (.inl rfl) Tryd.results48 (Res.tmp rfl Res.nil) (pSub (pCons Sel.hc pNil)) rfl

theorem k_codec_Reader_Rest {F : Nat} {p0 : T_codec_Reader} {p0b p0t : Nat} {r0 : (List UInt8)} (h : m_codec_Reader_Rest F p0 = some r0) :
    Rd2 Tryd.prog 49 [.pointer (some ⟨p0b, 0, none⟩)] (⟨p0b, [.string ⟨p0.left.s.toArray⟩, .int .i64 p0.left.e], p0t, (0, 0)⟩ :: []) (fun w => True) (.string ⟨r0.toArray⟩) := by
  unfold m_codec_Reader_Rest at h
  refine sp_of_wc Tryd.func49 rfl Tryd.ntmps49 rfl rfl (fun w0 hR => ?_)
  refine wc_seq ?_
  refine wc_region ?_
  refine wl_pure tt_ok rfl rfl ?_
  refine wl_nil ?_
  refine wx_then ?_
  refine wc_seq ?_
  refine wc_seq ?_
  refine wc_region ?_
  refine wl_pure tt_ok rfl rfl ?_
  refine wl_pure (v := .bool false) tt_ok rfl rfl ?_
  refine wl_nil ?_
  refine wx_then ?_
  refine wc_cond_false rfl ?_
  refine wc_skip ?_
  refine wx_then ?_
  refine wc_seq ?_
  refine wc_region ?_
  refine wl_pure tt_ok rfl rfl ?_
  refine wl_pure tt_ok rfl rfl ?_
  refine wl_pure (v := .pointer (some ⟨p0b, 0, none⟩)) tt_ok rfl rfl ?_
  refine wl_pure (v := .pointer (some ⟨p0b, 0, none⟩)) tt_ok rfl rfl ?_
  refine wl_val (v := .string ⟨p0.left.s.toArray⟩) (val_load tt_ok rfl (List.Mem.head _) rfl) rfl ?_
  refine wl_pure tt_ok rfl rfl ?_
  refine wl_nil ?_
  refine wx_then ?_
  refine wc_ret ?_
  simp only [Option.some.injEq] at h
  obtain rfl := h
  exact wx_rd tt_ok (.inl rfl) Tryd.results49 (Res.tmp rfl Res.nil) (pSub (pCons Sel.hc pNil)) rfl

theorem k_state_Take {F : Nat} {p0 : (List UInt8)} {r0 : T_api_State} {r1 : Int} (h : m_state_Take F p0 = some (r0, r1)) :
    SpD Tryd.prog 18 [.string ⟨p0.toArray⟩] [] (fun w => Rds w (ids []) [] (some ⟨0, 0, none⟩) (flat (fun _ : Unit => gl_state_playerBounds) [()]) ∧ Rds w (ids []) [] (some ⟨1, 0, none⟩) (flat (fun _ : Unit => gl_state_shotBounds) [()])) (fun v D => ∃ (r0a0 : Option Addr) (r0n0 r0c0 : Nat) (r0B0 : List Blk), r0n0 = r0.Shots.length ∧ Own 50 6 r0a0 r0n0 r0c0 (flat c_T_api_Shot r0.Shots) r0B0 ∧ v = .tuple #[.agg #[.int .u64 r0.Frame, .int .u64 r0.Seed, .int .i32 r0.Players.1.X, .int .i32 r0.Players.1.Y, .int .i32 r0.Players.1.VX, .int .i32 r0.Players.1.VY, .int .u8 r0.Players.1.Health, .int .u8 r0.Players.1.Cool, .int .u8 r0.Players.1.Face, .int .i32 r0.Players.2.X, .int .i32 r0.Players.2.Y, .int .i32 r0.Players.2.VX, .int .i32 r0.Players.2.VY, .int .u8 r0.Players.2.Health, .int .u8 r0.Players.2.Cool, .int .u8 r0.Players.2.Face, .slice r0a0 r0n0 r0c0, .int .u16 r0.Score.1, .int .u16 r0.Score.2], .int .i64 r1] ∧ D = fun F => (r0B0 ++ F)) := by
  unfold m_state_Take at h
  refine sp_of_wc Tryd.func18 rfl Tryd.ntmps18 rfl rfl (fun w0 hR => ?_)
  obtain ⟨G0S, G1S⟩ := hR
  refine wc_seq ?_
  refine wc_region ?_
  refine wl_alloc tt_ok rfl rfl (fun b2 => ?_)
  refine wl_pure tt_ok rfl rfl ?_
  refine wl_nil ?_
  refine wx_then ?_
  refine wc_seq ?_
  refine wc_region ?_
  refine wl_pure tt_ok rfl rfl ?_
  replace h := bsome h; obtain ⟨v10, x10, h⟩ := h
  refine wl_cs Tryd.call40 rfl rfl rfl (s_sp (k_codec_New x10) pNil (fun _ _ => trivial)) rfl ?_
  rintro _ _ ⟨_, ⟨b10_0, rfl, rfl⟩, rfl⟩
  refine wl_pure tt_ok rfl rfl ?_
  refine wl_nil ?_
  refine wx_then ?_
  refine wc_seq ?_
  refine wc_region ?_
  refine wl_pure tt_ok rfl rfl ?_
  replace h := bsome h; obtain ⟨⟨o12_0, v12⟩, x12, h⟩ := h; try dsimp only at h
  refine wl_cs Tryd.call41 rfl rfl rfl (s_sp (k_codec_Reader_U64 x12) (pCons Sel.hc pNil) (fun _ _ => trivial)) rfl ?_
  rintro _ _ ⟨_, ⟨rfl, rfl⟩, rfl⟩
  refine wl_pure tt_ok rfl rfl ?_
  replace h := bsome h; obtain ⟨⟨o14_0, v14⟩, x14, h⟩ := h; try dsimp only at h
  refine wl_cs Tryd.call41 rfl rfl rfl (s_sp (k_codec_Reader_U64 x14) (pCons Sel.hc pNil) (fun _ _ => trivial)) rfl ?_
  rintro _ _ ⟨_, ⟨rfl, rfl⟩, rfl⟩
  refine wl_pure (v := .agg #[.int .u64 v12, .int .u64 v14, .int .i32 (0 : Int), .int .i32 (0 : Int), .int .i32 (0 : Int), .int .i32 (0 : Int), .int .u8 (0 : Int), .int .u8 (0 : Int), .int .u8 (0 : Int), .int .i32 (0 : Int), .int .i32 (0 : Int), .int .i32 (0 : Int), .int .i32 (0 : Int), .int .u8 (0 : Int), .int .u8 (0 : Int), .int .u8 (0 : Int), .slice none 0 0, .int .u16 (0 : Int), .int .u16 (0 : Int)]) tt_ok rfl rfl ?_
  refine wl_alloc tt_ok rfl rfl (fun b5 => ?_)
  apply wl_store tt_ok; rfl; exact Upd.here; rfl; rfl; rfl; rfl; rfl; rfl
  refine wl_nil ?_
  refine wx_then ?_
  refine wc_seq ?_
  refine wc_seq ?_
  refine wc_region ?_
  refine wl_pure tt_ok rfl rfl ?_
  refine wl_nil ?_
  refine wx_then ?_
  refine wc_block ?_
  replace h := bsome h; obtain ⟨⟨l11_n10_0, l11_n5_f2⟩, h, hl11⟩ := h; try dsimp only at hl11
  refine wc_loop (fun m E L => ∃ (j11_16 : Int) (j11_n10_0 : T_codec_Reader) (j11_n5_f2 : (T_api_Player × T_api_Player)), m_state_Take_L10 F m j11_16 j11_n10_0 j11_n5_f2 = some (l11_n10_0, l11_n5_f2) ∧ E = [(2, .pointer (some ⟨b2, 0, none⟩)), (3, .int .i64 (0 : Int)), (4, .pointer (some ⟨b10_0, 0, none⟩)), (5, .pointer (some ⟨b5, 0, none⟩)), (16, .int .i64 j11_16)] ∧ L = (⟨b2, [.int .u64 (0 : Int), .int .u64 (0 : Int), .int .i32 (0 : Int), .int .i32 (0 : Int), .int .i32 (0 : Int), .int .i32 (0 : Int), .int .u8 (0 : Int), .int .u8 (0 : Int), .int .u8 (0 : Int), .int .i32 (0 : Int), .int .i32 (0 : Int), .int .i32 (0 : Int), .int .i32 (0 : Int), .int .u8 (0 : Int), .int .u8 (0 : Int), .int .u8 (0 : Int), .slice none 0 0, .int .u16 (0 : Int), .int .u16 (0 : Int)], 30, (0, 0)⟩ :: (⟨b10_0, [.string ⟨j11_n10_0.left.s.toArray⟩, .int .i64 j11_n10_0.left.e], 101, (0, 0)⟩ :: (⟨b5, [.int .u64 v12, .int .u64 v14, .int .i32 j11_n5_f2.1.X, .int .i32 j11_n5_f2.1.Y, .int .i32 j11_n5_f2.1.VX, .int .i32 j11_n5_f2.1.VY, .int .u8 j11_n5_f2.1.Health, .int .u8 j11_n5_f2.1.Cool, .int .u8 j11_n5_f2.1.Face, .int .i32 j11_n5_f2.2.X, .int .i32 j11_n5_f2.2.Y, .int .i32 j11_n5_f2.2.VX, .int .i32 j11_n5_f2.2.VY, .int .u8 j11_n5_f2.2.Health, .int .u8 j11_n5_f2.2.Cool, .int .u8 j11_n5_f2.2.Face, .slice none 0 0, .int .u16 (0 : Int), .int .u16 (0 : Int)], 30, (0, 0)⟩ :: [])))) F ⟨(0 : Int), o14_0, ((T_api_Player.mk (0 : Int) (0 : Int) (0 : Int) (0 : Int) (0 : Int) (0 : Int) (0 : Int)), (T_api_Player.mk (0 : Int) (0 : Int) (0 : Int) (0 : Int) (0 : Int) (0 : Int) (0 : Int))), h, rfl, rfl⟩ (agree_cons rfl (agree_cons rfl (agree_cons rfl (agree_cons rfl (agree_cons rfl agree_nil))))) (pSub (pCons (Sel.sc (Sel.sc Sel.hc)) (pCons (Sel.sc Sel.hc) (pCons Sel.hc pNil)))) ?_
  clear h
  rintro m11 _ _ ⟨j11_16, j11_n10_0, j11_n5_f2, h, rfl, rfl⟩
  rcases m11 with _ | m11
  · rw [m_state_Take_L10.eq_1] at h; cases h
  rw [m_state_Take_L10.eq_2] at h
  refine wc_seq ?_
  refine wc_region ?_
  refine wl_pure (v := .bool (decide (j11_16 < (2 : Int)))) tt_ok rfl rfl ?_
  refine wl_nil ?_
  refine wx_then ?_
  refine wc_seq ?_
  refine wc_cond rfl (fun hc => ?_) (fun hc => ?_)
  · replace h := ct hc h
    refine wc_skip ?_
    refine wx_then ?_
    refine wc_seq ?_
    refine wc_block ?_
    refine wc_seq ?_
    refine wc_region ?_
    refine wl_pure tt_ok rfl rfl ?_
    refine wl_pure tt_ok rfl rfl ?_
    refine wl_nil ?_
    refine wx_then ?_
    refine wc_region ?_
    refine wl_pure tt_ok rfl rfl ?_
    refine wl_pure tt_ok rfl rfl ?_
    replace h := bsome h; obtain ⟨⟨o21_0, v21⟩, x21, h⟩ := h; try dsimp only at h
    refine wl_cs Tryd.call42 rfl rfl rfl (s_sp (k_state_take_api_Player_f2_state_player x21) (pCons (Sel.sc Sel.hc) pNil) (fun _ _ => trivial)) rfl ?_
    rintro _ _ ⟨_, ⟨rfl, rfl⟩, rfl⟩
    refine wl_pure (v := .pointer (some ⟨b5, 2, none⟩)) tt_ok rfl rfl ?_
    rcases Bool.eq_false_or_eq_true (j11_16 == (0 : Int)) with hx230 | hx230
    · replace h := ct hx230 h
      refine wl_val (v := .pointer (some ⟨b5, 2, none⟩)) (val_ia (j := 0) tt_ok rfl rfl rfl rfl (by simpa using hx230) rfl rfl) rfl ?_
      apply wl_store tt_ok; rfl; exact (Upd.there (Upd.there Upd.here)); rfl; rfl; rfl; rfl; rfl; rfl
      refine wl_nil ?_
      refine wx_block ?_
      refine wx_then ?_
      refine wc_region ?_
      refine wl_pure (v := .int .i64 (IntKind.wrap .i64 (j11_16 + (1 : Int)))) tt_ok rfl rfl ?_
      refine wl_pure tt_ok rfl rfl ?_
      refine wl_nil ?_
      exact wx_round m11 (Nat.lt_succ_self m11) ⟨(IntKind.wrap .i64 (j11_16 + (1 : Int))), o21_0, (v21, j11_n5_f2.2), h, rfl, rfl⟩ (agree_cons rfl (agree_cons rfl (agree_cons rfl (agree_cons rfl (agree_cons rfl agree_nil))))) (pSub (pCons (Sel.sc Sel.hc) (pCons Sel.hc (pCons Sel.hc pNil))))
    replace h := cf hx230 h
    rcases Bool.eq_false_or_eq_true (j11_16 == (1 : Int)) with hx231 | hx231
    · replace h := ct hx231 h
      refine wl_val (v := .pointer (some ⟨b5, 9, none⟩)) (val_ia (j := 1) tt_ok rfl rfl rfl rfl (by simpa using hx231) rfl rfl) rfl ?_
      apply wl_store tt_ok; rfl; exact (Upd.there (Upd.there Upd.here)); rfl; rfl; rfl; rfl; rfl; rfl
      refine wl_nil ?_
      refine wx_block ?_
      refine wx_then ?_
      refine wc_region ?_
      refine wl_pure (v := .int .i64 (IntKind.wrap .i64 (j11_16 + (1 : Int)))) tt_ok rfl rfl ?_
      refine wl_pure tt_ok rfl rfl ?_
      refine wl_nil ?_
      exact wx_round m11 (Nat.lt_succ_self m11) ⟨(IntKind.wrap .i64 (j11_16 + (1 : Int))), o21_0, (j11_n5_f2.1, v21), h, rfl, rfl⟩ (agree_cons rfl (agree_cons rfl (agree_cons rfl (agree_cons rfl (agree_cons rfl agree_nil))))) (pSub (pCons (Sel.sc Sel.hc) (pCons Sel.hc (pCons Sel.hc pNil))))
    replace h := cf hx231 h
    cases h
  replace h := cf hc h
  refine wc_exit ?_
  refine wx_then_exit ?_
  simp only [Option.some.injEq, Prod.mk.injEq] at h
  obtain ⟨rfl, rfl⟩ := h
  have h := hl11; clear hl11; try dsimp only [orE_l, orE_r] at h
  refine wx_then_exit ?_
  refine wx_block_exit ?_
  refine wx_then ?_
  refine wc_seq ?_
  refine wc_region ?_
  refine wl_pure tt_ok rfl rfl ?_
  replace h := bsome h; obtain ⟨⟨o26_0, v26⟩, x26, h⟩ := h; try dsimp only at h
  refine wl_cs Tryd.call44 rfl rfl rfl (s_sp (k_codec_Reader_Var x26) (pCons (Sel.sc Sel.hc) pNil) (fun _ _ => trivial)) rfl ?_
  rintro _ _ ⟨_, ⟨rfl, rfl⟩, rfl⟩
  refine wl_pure tt_ok rfl rfl ?_
  refine wl_nil ?_
  refine wx_then ?_
  refine wc_seq ?_
  refine wc_seq ?_
  refine wc_region ?_
  refine wl_pure tt_ok rfl rfl ?_
  refine wl_pure (v := .bool (decide ((8 : Int) < v26))) tt_ok rfl rfl ?_
  refine wl_nil ?_
  refine wx_then ?_
  refine wc_cond rfl (fun hc => ?_) (fun hc => ?_)
  · replace h := ct hc h
    refine wc_seq ?_
    refine wc_region ?_
    refine wl_pure (v := .agg #[.int .u64 (0 : Int), .int .u64 (0 : Int), .int .i32 (0 : Int), .int .i32 (0 : Int), .int .i32 (0 : Int), .int .i32 (0 : Int), .int .u8 (0 : Int), .int .u8 (0 : Int), .int .u8 (0 : Int), .int .i32 (0 : Int), .int .i32 (0 : Int), .int .i32 (0 : Int), .int .i32 (0 : Int), .int .u8 (0 : Int), .int .u8 (0 : Int), .int .u8 (0 : Int), .slice none 0 0, .int .u16 (0 : Int), .int .u16 (0 : Int)]) tt_ok rfl rfl ?_
    apply wl_store tt_ok; rfl; exact (Upd.there Upd.here); rfl; rfl; rfl; rfl; rfl; rfl
    refine wl_pure tt_ok rfl rfl ?_
    refine wl_nil ?_
    refine wx_then ?_
    refine wc_ret ?_
    refine wx_then_ret ?_
    simp only [Option.some.injEq, Prod.mk.injEq] at h
    obtain ⟨rfl, rfl⟩ := h
    exact wx_spD tt_ok (.inl rfl) Tryd.results18 (Res.cell rfl (List.Mem.tail _ (List.Mem.head _)) rfl (Res.tmp rfl Res.nil)) ⟨none, 0, 0, [], rfl, Own.zero, rfl, rfl⟩ (fun F => by simp) (pSub (pNo pNil))
  replace h := cf hc h
  refine wc_skip ?_
  refine wx_then ?_
  refine wc_seq ?_
  refine wc_seq ?_
  refine wc_region ?_
  refine wl_pure tt_ok rfl rfl ?_
  refine wl_pure tt_ok rfl rfl ?_
  refine wl_nil ?_
  refine wx_then ?_
  refine wc_block ?_
  replace h := bsome h; obtain ⟨⟨l38_n10_0, l38_n5_f3⟩, h, hl38⟩ := h; try dsimp only at hl38
  refine wc_loop (fun m E L => ∃ (j38_31 : Int) (j38_n10_0 : T_codec_Reader) (j38_n5_f3 : (List T_api_Shot)) (j38_n5_f3a0 : Option Addr) (j38_n5_f3n0 : Nat) (j38_n5_f3c0 : Nat) (j38_n5_f3B0 : List Blk), m_state_Take_L37 F v26 m j38_31 j38_n10_0 j38_n5_f3 = some (l38_n10_0, l38_n5_f3) ∧ j38_n5_f3n0 = j38_n5_f3.length ∧ Own 50 6 j38_n5_f3a0 j38_n5_f3n0 j38_n5_f3c0 (flat c_T_api_Shot j38_n5_f3) j38_n5_f3B0 ∧ E = [(2, .pointer (some ⟨b2, 0, none⟩)), (3, .int .i64 (0 : Int)), (4, .pointer (some ⟨b10_0, 0, none⟩)), (5, .pointer (some ⟨b5, 0, none⟩)), (30, .int .u64 v26), (31, .int .u64 j38_31)] ∧ L = (⟨b2, [.int .u64 (0 : Int), .int .u64 (0 : Int), .int .i32 (0 : Int), .int .i32 (0 : Int), .int .i32 (0 : Int), .int .i32 (0 : Int), .int .u8 (0 : Int), .int .u8 (0 : Int), .int .u8 (0 : Int), .int .i32 (0 : Int), .int .i32 (0 : Int), .int .i32 (0 : Int), .int .i32 (0 : Int), .int .u8 (0 : Int), .int .u8 (0 : Int), .int .u8 (0 : Int), .slice none 0 0, .int .u16 (0 : Int), .int .u16 (0 : Int)], 30, (0, 0)⟩ :: (⟨b10_0, [.string ⟨j38_n10_0.left.s.toArray⟩, .int .i64 j38_n10_0.left.e], 101, (0, 0)⟩ :: (⟨b5, [.int .u64 v12, .int .u64 v14, .int .i32 j11_n5_f2.1.X, .int .i32 j11_n5_f2.1.Y, .int .i32 j11_n5_f2.1.VX, .int .i32 j11_n5_f2.1.VY, .int .u8 j11_n5_f2.1.Health, .int .u8 j11_n5_f2.1.Cool, .int .u8 j11_n5_f2.1.Face, .int .i32 j11_n5_f2.2.X, .int .i32 j11_n5_f2.2.Y, .int .i32 j11_n5_f2.2.VX, .int .i32 j11_n5_f2.2.VY, .int .u8 j11_n5_f2.2.Health, .int .u8 j11_n5_f2.2.Cool, .int .u8 j11_n5_f2.2.Face, .slice j38_n5_f3a0 j38_n5_f3n0 j38_n5_f3c0, .int .u16 (0 : Int), .int .u16 (0 : Int)], 30, (0, 0)⟩ :: (j38_n5_f3B0 ++ []))))) F ⟨(0 : Int), o26_0, ([] : List T_api_Shot), none, 0, 0, [], h, rfl, Own.zero, rfl, rfl⟩ (agree_cons rfl (agree_cons rfl (agree_cons rfl (agree_cons rfl (agree_cons rfl (agree_cons rfl agree_nil)))))) (pSub (pCons (Sel.sc Sel.hc) (pCons Sel.hc (pCons Sel.hc (pNo pNil))))) ?_
  clear h
  rintro m38 _ _ ⟨j38_31, j38_n10_0, j38_n5_f3, j38_n5_f3a0, j38_n5_f3n0, j38_n5_f3c0, j38_n5_f3B0, h, j38_n5_f3N0, j38_n5_f3V0, rfl, rfl⟩
  rcases m38 with _ | m38
  · rw [m_state_Take_L37.eq_1] at h; cases h
  rw [m_state_Take_L37.eq_2] at h
  refine wc_seq ?_
  refine wc_region ?_
  refine wl_pure (v := .bool (decide (j38_31 < v26))) tt_ok rfl rfl ?_
  refine wl_nil ?_
  refine wx_then ?_
  refine wc_seq ?_
  refine wc_cond rfl (fun hc => ?_) (fun hc => ?_)
  · replace h := ct hc h
    refine wc_skip ?_
    refine wx_then ?_
    refine wc_seq ?_
    refine wc_block ?_
    refine wc_k2 (Ls := (⟨b2, [.int .u64 (0 : Int), .int .u64 (0 : Int), .int .i32 (0 : Int), .int .i32 (0 : Int), .int .i32 (0 : Int), .int .i32 (0 : Int), .int .u8 (0 : Int), .int .u8 (0 : Int), .int .u8 (0 : Int), .int .i32 (0 : Int), .int .i32 (0 : Int), .int .i32 (0 : Int), .int .i32 (0 : Int), .int .u8 (0 : Int), .int .u8 (0 : Int), .int .u8 (0 : Int), .slice none 0 0, .int .u16 (0 : Int), .int .u16 (0 : Int)], 30, (0, 0)⟩ :: (⟨b5, [.int .u64 v12, .int .u64 v14, .int .i32 j11_n5_f2.1.X, .int .i32 j11_n5_f2.1.Y, .int .i32 j11_n5_f2.1.VX, .int .i32 j11_n5_f2.1.VY, .int .u8 j11_n5_f2.1.Health, .int .u8 j11_n5_f2.1.Cool, .int .u8 j11_n5_f2.1.Face, .int .i32 j11_n5_f2.2.X, .int .i32 j11_n5_f2.2.Y, .int .i32 j11_n5_f2.2.VX, .int .i32 j11_n5_f2.2.VY, .int .u8 j11_n5_f2.2.Health, .int .u8 j11_n5_f2.2.Cool, .int .u8 j11_n5_f2.2.Face, .slice j38_n5_f3a0 j38_n5_f3n0 j38_n5_f3c0, .int .u16 (0 : Int), .int .u16 (0 : Int)], 30, (0, 0)⟩ :: (j38_n5_f3B0 ++ [])))) [3, 4, 5, 6, 7] [5, 6, 7] [0, 1, 0, 4, 12, 31, 63, 127] [0, 1, 2, 3, 4, 5, 6, 7] (by kernel_rfl) (by kernel_rfl) (by kernel_rfl) ?_
    refine k_val (v := .pointer (some ⟨b5, 16, none⟩)) rfl rfl rfl (pSub (pCons Sel.hc (pCons (Sel.sc Sel.hc) (pApp (Sel.sc Sel.ha) pNil)))) (stepV_ok tt_ok rfl) rfl ?_
    refine k_val (v := .slice j38_n5_f3a0 j38_n5_f3n0 j38_n5_f3c0) rfl rfl rfl (pSub (pCons Sel.hc (pCons (Sel.sc Sel.hc) (pApp (Sel.sc Sel.ha) pNil)))) (val_load tt_ok rfl (List.Mem.tail _ (List.Mem.head _)) rfl) rfl ?_
    refine k_val rfl rfl rfl (pSub (pCons Sel.hc (pCons (Sel.sc Sel.hc) (pApp (Sel.sc Sel.ha) pNil)))) (stepV_ok tt_ok rfl) rfl ?_
    replace h := bsome h; obtain ⟨⟨o36_0, v36⟩, x36, h⟩ := h; try dsimp only at h
    refine k_cs rfl rfl rfl Tryd.call45 rfl rfl rfl (s_sp (k_state_take_api_Shot_f2_state_shot x36) (pCons (Sel.sc Sel.hc) pNil) (fun _ _ => trivial)) rfl (.inr (by rintro _ _ ⟨_, ⟨rfl, rfl⟩, rfl⟩; exact ⟨_, (pCons (Sel.sc Sel.hc) (pCons (Sel.sc Sel.hc) (pApp (Sel.sc Sel.ha) pNil)))⟩)) ?_
    rintro _ _ ⟨_, ⟨rfl, rfl⟩, rfl⟩
    refine k_chg rfl rfl rfl (chg_bsv (enc := c_T_api_Shot) (xs := ([v36] : List T_api_Shot)) tt_ok rfl rfl rfl rfl rfl rfl rfl rfl c_T_api_Shot_len) rfl (.inr (by rintro _ _ ⟨_, _, _, _, rfl, _, _, rfl⟩; exact ⟨_, (pCons (Sel.sa (Sel.sc Sel.hc)) (pCons (Sel.sa (Sel.sc Sel.hc)) (pApp (Sel.sa (Sel.sc Sel.ha)) pNil)))⟩)) ?_
    rintro _ _ ⟨a37, n37_, c37, B37, rfl, N37, V37, rfl⟩
    replace h := bsome h; obtain ⟨v38, x38, h⟩ := h
    refine k_chg rfl rfl rfl (chg_app (enc := c_T_api_Shot) (ys := ([v36] : List T_api_Shot)) tt_ok rfl rfl rfl rfl rfl rfl j38_n5_f3N0 N37 j38_n5_f3V0 (Sel.sa (Sel.sc (Sel.sc (Sel.sc Sel.ha)))) (Rds.of_vec V37) ⟨_, Sel.ha⟩ c_T_api_Shot_len (fun _ => rfl) rfl x38) rfl (.inl rfl) ?_
    rintro _ _ ⟨a38, n38_, c38, B38, rfl, N38, V38, rfl⟩
    refine k_chg rfl rfl rfl (Chg.of_val (v := .pointer (some ⟨b5, 16, none⟩)) (stepV_ok tt_ok rfl)) rfl (.inl rfl) ?_
    rintro _ _ ⟨rfl, rfl⟩
    refine k_chg0 rfl rfl rfl (chg_store tt_ok rfl (Upd.right (Upd.right (Upd.there (Upd.there Upd.here)))) rfl rfl rfl rfl rfl rfl) (.inl rfl) ?_
    rintro _ _ rfl
    refine k_end (by kernel_rfl) ?_
    refine wx_block ?_
    refine wx_then ?_
    refine wc_region ?_
    refine wl_pure (v := .int .u64 (IntKind.wrap .u64 (j38_31 + (1 : Int)))) tt_ok rfl rfl ?_
    refine wl_pure tt_ok rfl rfl ?_
    refine wl_nil ?_
    exact wx_round m38 (Nat.lt_succ_self m38) ⟨(IntKind.wrap .u64 (j38_31 + (1 : Int))), o36_0, v38, a38, n38_, c38, B38, h, N38, V38, rfl, rfl⟩ (agree_cons rfl (agree_cons rfl (agree_cons rfl (agree_cons rfl (agree_cons rfl (agree_cons rfl agree_nil)))))) (pSub (pCons (Sel.sa (Sel.sa (Sel.sc Sel.hc))) (pCons (Sel.sa (Sel.sa Sel.hc)) (pCons (Sel.sa (Sel.sa Sel.hc)) (pApp Sel.ha pNil)))))
  replace h := cf hc h
  refine wc_exit ?_
  refine wx_then_exit ?_
  simp only [Option.some.injEq, Prod.mk.injEq] at h
  obtain ⟨rfl, rfl⟩ := h
  have h := hl38; clear hl38; try dsimp only [orE_l, orE_r] at h
  refine wx_then_exit ?_
  refine wx_block_exit ?_
  refine wx_then ?_
  refine wc_seq ?_
  refine wc_seq ?_
  refine wc_region ?_
  refine wl_pure tt_ok rfl rfl ?_
  refine wl_nil ?_
  refine wx_then ?_
  refine wc_block ?_
  replace h := bsome h; obtain ⟨⟨l53_n10_0, l53_n5_f4⟩, h, hl53⟩ := h; try dsimp only at hl53
  refine wc_loop (fun m E L => ∃ (j53_41 : Int) (j53_n10_0 : T_codec_Reader) (j53_n5_f4 : (Int × Int)), m_state_Take_L52 F m j53_41 j53_n10_0 j53_n5_f4 = some (l53_n10_0, l53_n5_f4) ∧ E = [(2, .pointer (some ⟨b2, 0, none⟩)), (3, .int .i64 (0 : Int)), (4, .pointer (some ⟨b10_0, 0, none⟩)), (5, .pointer (some ⟨b5, 0, none⟩)), (41, .int .i64 j53_41)] ∧ L = (⟨b2, [.int .u64 (0 : Int), .int .u64 (0 : Int), .int .i32 (0 : Int), .int .i32 (0 : Int), .int .i32 (0 : Int), .int .i32 (0 : Int), .int .u8 (0 : Int), .int .u8 (0 : Int), .int .u8 (0 : Int), .int .i32 (0 : Int), .int .i32 (0 : Int), .int .i32 (0 : Int), .int .i32 (0 : Int), .int .u8 (0 : Int), .int .u8 (0 : Int), .int .u8 (0 : Int), .slice none 0 0, .int .u16 (0 : Int), .int .u16 (0 : Int)], 30, (0, 0)⟩ :: (⟨b10_0, [.string ⟨j53_n10_0.left.s.toArray⟩, .int .i64 j53_n10_0.left.e], 101, (0, 0)⟩ :: (⟨b5, [.int .u64 v12, .int .u64 v14, .int .i32 j11_n5_f2.1.X, .int .i32 j11_n5_f2.1.Y, .int .i32 j11_n5_f2.1.VX, .int .i32 j11_n5_f2.1.VY, .int .u8 j11_n5_f2.1.Health, .int .u8 j11_n5_f2.1.Cool, .int .u8 j11_n5_f2.1.Face, .int .i32 j11_n5_f2.2.X, .int .i32 j11_n5_f2.2.Y, .int .i32 j11_n5_f2.2.VX, .int .i32 j11_n5_f2.2.VY, .int .u8 j11_n5_f2.2.Health, .int .u8 j11_n5_f2.2.Cool, .int .u8 j11_n5_f2.2.Face, .slice j38_n5_f3a0 j38_n5_f3n0 j38_n5_f3c0, .int .u16 j53_n5_f4.1, .int .u16 j53_n5_f4.2], 30, (0, 0)⟩ :: (j38_n5_f3B0 ++ []))))) F ⟨(0 : Int), j38_n10_0, ((0 : Int), (0 : Int)), h, rfl, rfl⟩ (agree_cons rfl (agree_cons rfl (agree_cons rfl (agree_cons rfl (agree_cons rfl agree_nil))))) (pSub (pCons Sel.hc (pCons Sel.hc (pCons Sel.hc (pApp Sel.ha pNil))))) ?_
  clear h
  rintro m53 _ _ ⟨j53_41, j53_n10_0, j53_n5_f4, h, rfl, rfl⟩
  rcases m53 with _ | m53
  · rw [m_state_Take_L52.eq_1] at h; cases h
  rw [m_state_Take_L52.eq_2] at h
  refine wc_seq ?_
  refine wc_region ?_
  refine wl_pure (v := .bool (decide (j53_41 < (2 : Int)))) tt_ok rfl rfl ?_
  refine wl_nil ?_
  refine wx_then ?_
  refine wc_seq ?_
  refine wc_cond rfl (fun hc => ?_) (fun hc => ?_)
  · replace h := ct hc h
    refine wc_skip ?_
    refine wx_then ?_
    refine wc_seq ?_
    refine wc_block ?_
    refine wc_seq ?_
    refine wc_region ?_
    refine wl_pure tt_ok rfl rfl ?_
    refine wl_pure tt_ok rfl rfl ?_
    refine wl_nil ?_
    refine wx_then ?_
    refine wc_region ?_
    refine wl_pure tt_ok rfl rfl ?_
    refine wl_pure tt_ok rfl rfl ?_
    replace h := bsome h; obtain ⟨⟨o46_0, v46⟩, x46, h⟩ := h; try dsimp only at h
    refine wl_cs Tryd.call47 rfl rfl rfl (s_sp (k_codec_Reader_U16 x46) (pCons (Sel.sc Sel.hc) pNil) (fun _ _ => trivial)) rfl ?_
    rintro _ _ ⟨_, ⟨rfl, rfl⟩, rfl⟩
    refine wl_pure (v := .pointer (some ⟨b5, 17, none⟩)) tt_ok rfl rfl ?_
    rcases Bool.eq_false_or_eq_true (j53_41 == (0 : Int)) with hx480 | hx480
    · replace h := ct hx480 h
      refine wl_val (v := .pointer (some ⟨b5, 17, none⟩)) (val_ia (j := 0) tt_ok rfl rfl rfl rfl (by simpa using hx480) rfl rfl) rfl ?_
      apply wl_store tt_ok; rfl; exact (Upd.there (Upd.there Upd.here)); rfl; rfl; rfl; rfl; rfl; rfl
      refine wl_nil ?_
      refine wx_block ?_
      refine wx_then ?_
      refine wc_region ?_
      refine wl_pure (v := .int .i64 (IntKind.wrap .i64 (j53_41 + (1 : Int)))) tt_ok rfl rfl ?_
      refine wl_pure tt_ok rfl rfl ?_
      refine wl_nil ?_
      exact wx_round m53 (Nat.lt_succ_self m53) ⟨(IntKind.wrap .i64 (j53_41 + (1 : Int))), o46_0, (v46, j53_n5_f4.2), h, rfl, rfl⟩ (agree_cons rfl (agree_cons rfl (agree_cons rfl (agree_cons rfl (agree_cons rfl agree_nil))))) (pSub (pCons (Sel.sc Sel.hc) (pCons Sel.hc (pCons Sel.hc (pApp Sel.ha pNil)))))
    replace h := cf hx480 h
    rcases Bool.eq_false_or_eq_true (j53_41 == (1 : Int)) with hx481 | hx481
    · replace h := ct hx481 h
      refine wl_val (v := .pointer (some ⟨b5, 18, none⟩)) (val_ia (j := 1) tt_ok rfl rfl rfl rfl (by simpa using hx481) rfl rfl) rfl ?_
      apply wl_store tt_ok; rfl; exact (Upd.there (Upd.there Upd.here)); rfl; rfl; rfl; rfl; rfl; rfl
      refine wl_nil ?_
      refine wx_block ?_
      refine wx_then ?_
      refine wc_region ?_
      refine wl_pure (v := .int .i64 (IntKind.wrap .i64 (j53_41 + (1 : Int)))) tt_ok rfl rfl ?_
      refine wl_pure tt_ok rfl rfl ?_
      refine wl_nil ?_
      exact wx_round m53 (Nat.lt_succ_self m53) ⟨(IntKind.wrap .i64 (j53_41 + (1 : Int))), o46_0, (j53_n5_f4.1, v46), h, rfl, rfl⟩ (agree_cons rfl (agree_cons rfl (agree_cons rfl (agree_cons rfl (agree_cons rfl agree_nil))))) (pSub (pCons (Sel.sc Sel.hc) (pCons Sel.hc (pCons Sel.hc (pApp Sel.ha pNil)))))
    replace h := cf hx481 h
    cases h
  replace h := cf hc h
  refine wc_exit ?_
  refine wx_then_exit ?_
  simp only [Option.some.injEq, Prod.mk.injEq] at h
  obtain ⟨rfl, rfl⟩ := h
  have h := hl53; clear hl53; try dsimp only [orE_l, orE_r] at h
  refine wx_then_exit ?_
  refine wx_block_exit ?_
  refine wx_then ?_
  refine wc_seq ?_
  refine wc_block ?_
  refine wc_seq ?_
  refine wc_region ?_
  refine wl_pure tt_ok rfl rfl ?_
  replace h := bsome h; obtain ⟨v52, x52, h⟩ := h
  refine wl_cq Tryd.call48 rfl rfl rfl (q_rd (k_codec_Reader_Err x52) (pCons (Sel.sc Sel.hc) pNil) (fun _ _ => trivial)) rfl ?_
  refine wl_pure (v := .bool (v52 != (0 : Int))) tt_ok rfl rfl ?_
  refine wl_pure tt_ok rfl rfl ?_
  refine wl_nil ?_
  refine wx_then ?_
  refine wc_cond rfl (fun hc => ?_) (fun hc => ?_)
  · replace h := ct hc h
    refine wc_seq ?_
    refine wc_region ?_
    refine wl_pure (v := .agg #[.int .u64 (0 : Int), .int .u64 (0 : Int), .int .i32 (0 : Int), .int .i32 (0 : Int), .int .i32 (0 : Int), .int .i32 (0 : Int), .int .u8 (0 : Int), .int .u8 (0 : Int), .int .u8 (0 : Int), .int .i32 (0 : Int), .int .i32 (0 : Int), .int .i32 (0 : Int), .int .i32 (0 : Int), .int .u8 (0 : Int), .int .u8 (0 : Int), .int .u8 (0 : Int), .slice none 0 0, .int .u16 (0 : Int), .int .u16 (0 : Int)]) tt_ok rfl rfl ?_
    refine wl_pure tt_ok rfl rfl ?_
    replace h := bsome h; obtain ⟨v56, x56, h⟩ := h
    refine wl_cq Tryd.call48 rfl rfl rfl (q_rd (k_codec_Reader_Err x56) (pCons (Sel.sc Sel.hc) pNil) (fun _ _ => trivial)) rfl ?_
    apply wl_store tt_ok; rfl; exact Upd.here; rfl; rfl; rfl; rfl; rfl; rfl
    refine wl_pure tt_ok rfl rfl ?_
    refine wl_nil ?_
    refine wx_then ?_
    refine wc_ret ?_
    refine wx_block_ret ?_
    refine wx_then_ret ?_
    simp only [Option.some.injEq, Prod.mk.injEq] at h
    obtain ⟨rfl, rfl⟩ := h
    exact wx_spD tt_ok (.inl rfl) Tryd.results18 (Res.cell rfl (List.Mem.head _) rfl (Res.tmp rfl Res.nil)) ⟨none, 0, 0, [], rfl, Own.zero, rfl, rfl⟩ (fun F => by simp) (pSub (pNo pNil))
  replace h := cf hc h
  refine wc_seq ?_
  refine wc_region ?_
  refine wl_pure tt_ok rfl rfl ?_
  replace h := bsome h; obtain ⟨v59, x59, h⟩ := h
  refine wl_cq Tryd.call49 rfl rfl rfl (q_rd (k_codec_Reader_Rest x59) (pCons (Sel.sc Sel.hc) pNil) (fun _ _ => trivial)) rfl ?_
  refine wl_val (v := .bool (!(v59 == ([] : List UInt8)))) (val_sne tt_ok rfl rfl) rfl ?_
  refine wl_pure tt_ok rfl rfl ?_
  replace h := bsome h; obtain ⟨v65, h, hg65⟩ := h
  refine wl_split (t := 61) rfl (fun hc => ?_) (fun hc => ?_)
  · replace h := ct hc h
    refine wl_skip rfl rfl ?_
    refine wl_skip rfl rfl ?_
    refine wl_skip rfl rfl ?_
    simp only [Option.some.injEq, Prod.mk.injEq] at h
    obtain rfl := h
    have h := hg65; clear hg65
    refine wl_pure (v := .bool true) tt_ok rfl rfl ?_
    refine wl_pure tt_ok rfl rfl ?_
    refine wl_nil ?_
    refine wx_then ?_
    replace h := ct rfl h
    refine wc_cond_true rfl ?_
    refine wc_seq ?_
    refine wc_region ?_
    refine wl_pure (v := .agg #[.int .u64 (0 : Int), .int .u64 (0 : Int), .int .i32 (0 : Int), .int .i32 (0 : Int), .int .i32 (0 : Int), .int .i32 (0 : Int), .int .u8 (0 : Int), .int .u8 (0 : Int), .int .u8 (0 : Int), .int .i32 (0 : Int), .int .i32 (0 : Int), .int .i32 (0 : Int), .int .i32 (0 : Int), .int .u8 (0 : Int), .int .u8 (0 : Int), .int .u8 (0 : Int), .slice none 0 0, .int .u16 (0 : Int), .int .u16 (0 : Int)]) tt_ok rfl rfl ?_
    apply wl_store tt_ok; rfl; exact Upd.here; rfl; rfl; rfl; rfl; rfl; rfl
    refine wl_pure tt_ok rfl rfl ?_
    refine wl_nil ?_
    refine wx_then ?_
    refine wc_ret ?_
    refine wx_block_ret ?_
    refine wx_then_ret ?_
    simp only [Option.some.injEq, Prod.mk.injEq] at h
    obtain ⟨rfl, rfl⟩ := h
    exact wx_spD tt_ok (.inl rfl) Tryd.results18 (Res.cell rfl (List.Mem.head _) rfl (Res.tmp rfl Res.nil)) ⟨none, 0, 0, [], rfl, Own.zero, rfl, rfl⟩ (fun F => by simp) (pSub (pNo pNil))
  replace h := cf hc h
  refine wl_run rfl ?_
  refine wl_val (v := .agg #[.int .u64 v12, .int .u64 v14, .int .i32 j11_n5_f2.1.X, .int .i32 j11_n5_f2.1.Y, .int .i32 j11_n5_f2.1.VX, .int .i32 j11_n5_f2.1.VY, .int .u8 j11_n5_f2.1.Health, .int .u8 j11_n5_f2.1.Cool, .int .u8 j11_n5_f2.1.Face, .int .i32 j11_n5_f2.2.X, .int .i32 j11_n5_f2.2.Y, .int .i32 j11_n5_f2.2.VX, .int .i32 j11_n5_f2.2.VY, .int .u8 j11_n5_f2.2.Health, .int .u8 j11_n5_f2.2.Cool, .int .u8 j11_n5_f2.2.Face, .slice j38_n5_f3a0 j38_n5_f3n0 j38_n5_f3c0, .int .u16 j53_n5_f4.1, .int .u16 j53_n5_f4.2]) (val_load tt_ok rfl (List.Mem.tail _ (List.Mem.tail _ (List.Mem.head _))) rfl) rfl ?_
  replace h := bsome h; obtain ⟨v63, x63, h⟩ := h
  refine wl_run rfl ?_
  refine wl_cq Tryd.call11 rfl rfl rfl (q_pf (k_state_Check (p0 := (T_api_State.mk v12 v14 j11_n5_f2 j38_n5_f3 j53_n5_f4)) j38_n5_f3N0 (vec_cap j38_n5_f3V0) x63) (fun w hI => ⟨(Rds.call (Rds.of_vec j38_n5_f3V0) pNil ⟨_, (Sel.sc (Sel.sc (Sel.sc Sel.ha)))⟩) w hI, (Rds.call G0S pNil rsub_nil) w hI, (Rds.call G1S pNil rsub_nil) w hI⟩)) rfl ?_
  refine wl_run rfl ?_
  refine wl_pure (v := .bool (v63 != (0 : Int))) tt_ok rfl rfl ?_
  simp only [Option.some.injEq, Prod.mk.injEq] at h
  obtain rfl := h
  have h := hg65; clear hg65
  refine wl_pure (v := .bool (v63 != (0 : Int))) tt_ok rfl rfl ?_
  refine wl_pure tt_ok rfl rfl ?_
  refine wl_nil ?_
  refine wx_then ?_
  refine wc_cond rfl (fun hc => ?_) (fun hc => ?_)
  · replace h := ct hc h
    refine wc_seq ?_
    refine wc_region ?_
    refine wl_pure (v := .agg #[.int .u64 (0 : Int), .int .u64 (0 : Int), .int .i32 (0 : Int), .int .i32 (0 : Int), .int .i32 (0 : Int), .int .i32 (0 : Int), .int .u8 (0 : Int), .int .u8 (0 : Int), .int .u8 (0 : Int), .int .i32 (0 : Int), .int .i32 (0 : Int), .int .i32 (0 : Int), .int .i32 (0 : Int), .int .u8 (0 : Int), .int .u8 (0 : Int), .int .u8 (0 : Int), .slice none 0 0, .int .u16 (0 : Int), .int .u16 (0 : Int)]) tt_ok rfl rfl ?_
    apply wl_store tt_ok; rfl; exact Upd.here; rfl; rfl; rfl; rfl; rfl; rfl
    refine wl_pure tt_ok rfl rfl ?_
    refine wl_nil ?_
    refine wx_then ?_
    refine wc_ret ?_
    refine wx_block_ret ?_
    refine wx_then_ret ?_
    simp only [Option.some.injEq, Prod.mk.injEq] at h
    obtain ⟨rfl, rfl⟩ := h
    exact wx_spD tt_ok (.inl rfl) Tryd.results18 (Res.cell rfl (List.Mem.head _) rfl (Res.tmp rfl Res.nil)) ⟨none, 0, 0, [], rfl, Own.zero, rfl, rfl⟩ (fun F => by simp) (pSub (pNo pNil))
  replace h := cf hc h
  refine wc_skip ?_
  refine wx_block ?_
  refine wx_then ?_
  refine wc_seq ?_
  refine wc_region ?_
  refine wl_val (v := .agg #[.int .u64 v12, .int .u64 v14, .int .i32 j11_n5_f2.1.X, .int .i32 j11_n5_f2.1.Y, .int .i32 j11_n5_f2.1.VX, .int .i32 j11_n5_f2.1.VY, .int .u8 j11_n5_f2.1.Health, .int .u8 j11_n5_f2.1.Cool, .int .u8 j11_n5_f2.1.Face, .int .i32 j11_n5_f2.2.X, .int .i32 j11_n5_f2.2.Y, .int .i32 j11_n5_f2.2.VX, .int .i32 j11_n5_f2.2.VY, .int .u8 j11_n5_f2.2.Health, .int .u8 j11_n5_f2.2.Cool, .int .u8 j11_n5_f2.2.Face, .slice j38_n5_f3a0 j38_n5_f3n0 j38_n5_f3c0, .int .u16 j53_n5_f4.1, .int .u16 j53_n5_f4.2]) (val_load tt_ok rfl (List.Mem.tail _ (List.Mem.tail _ (List.Mem.head _))) rfl) rfl ?_
  apply wl_store tt_ok; rfl; exact Upd.here; rfl; rfl; rfl; rfl; rfl; rfl
  refine wl_pure tt_ok rfl rfl ?_
  refine wl_nil ?_
  refine wx_then ?_
  refine wc_ret ?_
  simp only [Option.some.injEq, Prod.mk.injEq] at h
  obtain ⟨rfl, rfl⟩ := h
  exact wx_spD tt_ok (.inl rfl) Tryd.results18 (Res.cell rfl (List.Mem.head _) rfl (Res.tmp rfl Res.nil)) ⟨j38_n5_f3a0, j38_n5_f3n0, j38_n5_f3c0, j38_n5_f3B0, j38_n5_f3N0, j38_n5_f3V0, rfl, rfl⟩ (fun F => by simp) (pSub (pApp (Sel.sc (Sel.sc (Sel.sc Sel.ha))) pNil))

theorem k_slices_Equal___api_Shot_api_Shot {F : Nat} {p0 : (List T_api_Shot)} {p0a0 : Option Addr} {p0n0 p0c0 : Nat} {p1 : (List T_api_Shot)} {p1a0 : Option Addr} {p1n0 p1c0 : Nat} {r0 : Bool} (p0N0 : p0n0 = p0.length) (p0H0 : p0n0 ≤ p0c0) (p1N0 : p1n0 = p1.length) (p1H0 : p1n0 ≤ p1c0) (h : m_slices_Equal___api_Shot_api_Shot F p0 p1 = some r0) :
    Pf Tryd.prog 55 [.slice p0a0 p0n0 p0c0, .slice p1a0 p1n0 p1c0] (fun w => Rds w [] [] p0a0 (flat c_T_api_Shot p0) ∧ Rds w [] [] p1a0 (flat c_T_api_Shot p1)) (.bool r0) := by
  unfold m_slices_Equal___api_Shot_api_Shot at h
  refine pf_of_wc Tryd.func55 rfl Tryd.ntmps55 rfl rfl (fun w0 hR => ?_)
  obtain ⟨p0S0, p1S0⟩ := hR
  refine wc_seq ?_
  refine wc_region ?_
  refine wl_pure tt_ok rfl rfl ?_
  refine wl_nil ?_
  refine wx_then ?_
  refine wc_seq ?_
  refine wc_seq ?_
  refine wc_region ?_
  refine wl_pure tt_ok rfl rfl ?_
  refine wl_val (v := .int .i64 (p0.length : Int)) (val_len tt_ok rfl rfl p0N0) rfl ?_
  refine wl_pure tt_ok rfl rfl ?_
  refine wl_val (v := .int .i64 (p1.length : Int)) (val_len tt_ok rfl rfl p1N0) rfl ?_
  refine wl_pure (v := .bool ((p0.length : Int) != (p1.length : Int))) tt_ok rfl rfl ?_
  refine wl_nil ?_
  refine wx_then ?_
  refine wc_cond rfl (fun hc => ?_) (fun hc => ?_)
  · replace h := ct hc h
    refine wc_seq ?_
    refine wc_region ?_
    refine wl_pure tt_ok rfl rfl ?_
    refine wl_nil ?_
    refine wx_then ?_
    refine wc_ret ?_
    refine wx_then_ret ?_
    simp only [Option.some.injEq] at h
    obtain rfl := h
    exact wx_pf tt_ok (.inl rfl) Tryd.results55 (Res.tmp rfl Res.nil) rfl
  replace h := cf hc h
  refine wc_skip ?_
  refine wx_then ?_
  refine wc_seq ?_
  refine wc_seq ?_
  refine wc_region ?_
  refine wl_pure tt_ok rfl rfl ?_
  refine wl_val (v := .int .i64 (p0.length : Int)) (val_len tt_ok rfl rfl p0N0) rfl ?_
  refine wl_pure tt_ok rfl rfl ?_
  refine wl_nil ?_
  refine wx_then ?_
  refine wc_block ?_
  replace h := bsome h; obtain ⟨o15, h, hl15⟩ := h
  refine wc_loop (fun m E L => ∃ (j15_13 : Int), m_slices_Equal___api_Shot_api_Shot_L14 F p0 p1 m j15_13 = some o15 ∧ E = [(0, .slice p0a0 p0n0 p0c0), (1, .slice p1a0 p1n0 p1c0), (4, .bool false), (12, .int .i64 (p0.length : Int)), (13, .int .i64 j15_13)] ∧ L = []) F ⟨(0 : Int), h, rfl, rfl⟩ (agree_cons rfl (agree_cons rfl (agree_cons rfl (agree_cons rfl (agree_cons rfl agree_nil))))) (pSub pNil) ?_
  clear h
  rintro m15 _ _ ⟨j15_13, h, rfl, rfl⟩
  rcases m15 with _ | m15
  · rw [m_slices_Equal___api_Shot_api_Shot_L14.eq_1] at h; cases h
  rw [m_slices_Equal___api_Shot_api_Shot_L14.eq_2] at h
  refine wc_seq ?_
  refine wc_region ?_
  refine wl_pure (v := .bool (decide (j15_13 < (p0.length : Int)))) tt_ok rfl rfl ?_
  refine wl_nil ?_
  refine wx_then ?_
  refine wc_seq ?_
  refine wc_cond rfl (fun hc => ?_) (fun hc => ?_)
  · replace h := ct hc h
    refine wc_skip ?_
    refine wx_then ?_
    refine wc_seq ?_
    refine wc_block ?_
    refine wc_seq ?_
    refine wc_region ?_
    refine wl_pure tt_ok rfl rfl ?_
    refine wl_pure tt_ok rfl rfl ?_
    refine wl_nil ?_
    refine wx_then ?_
    refine wc_seq ?_
    refine wc_quiet (by kernel_rfl) (by kernel_rfl) ?_
    refine wq_pure tt_ok rfl rfl ?_
    refine wq_pure tt_ok rfl rfl ?_
    replace h := bsome h; obtain ⟨v18, x18, h⟩ := h
    refine wq_val (v := .pointer (some ((adOf p0a0).add (j15_13.toNat * 6 + 0)))) (val_ix (enc := c_T_api_Shot) tt_ok rfl rfl rfl rfl p0N0 p0S0 c_T_api_Shot_len rfl x18) rfl ?_
    refine wq_val (v := .agg #[.int .i32 v18.X, .int .i32 v18.Y, .int .i32 v18.VX, .int .i32 v18.VY, .int .u8 v18.Owner, .int .u8 v18.Life]) (val_le (enc := c_T_api_Shot) (xs := p0) tt_ok rfl p0S0 rsub_nil c_T_api_Shot_len x18 rfl) rfl ?_
    refine wq_pure tt_ok rfl rfl ?_
    refine wq_pure tt_ok rfl rfl ?_
    replace h := bsome h; obtain ⟨v22, x22, h⟩ := h
    refine wq_val (v := .pointer (some ((adOf p1a0).add (j15_13.toNat * 6 + 0)))) (val_ix (enc := c_T_api_Shot) tt_ok rfl rfl rfl rfl p1N0 p1S0 c_T_api_Shot_len rfl x22) rfl ?_
    refine wq_val (v := .agg #[.int .i32 v22.X, .int .i32 v22.Y, .int .i32 v22.VX, .int .i32 v22.VY, .int .u8 v22.Owner, .int .u8 v22.Life]) (val_le (enc := c_T_api_Shot) (xs := p1) tt_ok rfl p1S0 rsub_nil c_T_api_Shot_len x22 rfl) rfl ?_
    refine wq_val (v := .bool (!((v18.X == v22.X) && ((v18.Y == v22.Y) && ((v18.VX == v22.VX) && ((v18.VY == v22.VY) && ((v18.Owner == v22.Owner) && (v18.Life == v22.Life)))))))) (val_nes tt_ok tt_eq tt_one Tryd.eqGuardType50 rfl rfl rfl rfl rfl) rfl ?_
    refine wq_nil ?_
    refine wx_then ?_
    refine wc_cond rfl (fun hc => ?_) (fun hc => ?_)
    · replace h := ct hc h
      refine wc_seq ?_
      refine wc_region ?_
      refine wl_pure tt_ok rfl rfl ?_
      refine wl_nil ?_
      refine wx_then ?_
      refine wc_ret ?_
      refine wx_block_ret ?_
      refine wx_then_ret ?_
      obtain rfl := Option.some.inj h
      have h := hl15; clear hl15; try dsimp only [orE_l, orE_r] at h
      refine wx_then_ret ?_
      refine wx_block_ret ?_
      refine wx_then_ret ?_
      simp only [Option.some.injEq] at h
      obtain rfl := h
      exact wx_pf tt_ok (.inl rfl) Tryd.results55 (Res.tmp rfl Res.nil) rfl
    replace h := cf hc h
    refine wc_skip ?_
    refine wx_block ?_
    refine wx_then ?_
    refine wc_region ?_
    refine wl_pure (v := .int .i64 (IntKind.wrap .i64 (j15_13 + (1 : Int)))) tt_ok rfl rfl ?_
    refine wl_pure tt_ok rfl rfl ?_
    refine wl_nil ?_
    exact wx_round m15 (Nat.lt_succ_self m15) ⟨(IntKind.wrap .i64 (j15_13 + (1 : Int))), h, rfl, rfl⟩ (agree_cons rfl (agree_cons rfl (agree_cons rfl (agree_cons rfl (agree_cons rfl agree_nil))))) (pSub pNil)
  replace h := cf hc h
  refine wc_exit ?_
  refine wx_then_exit ?_
  obtain rfl := Option.some.inj h
  have h := hl15; clear hl15; try dsimp only [orE_l, orE_r] at h
  refine wx_then_exit ?_
  refine wx_block_exit ?_
  refine wx_then ?_
  refine wc_seq ?_
  refine wc_region ?_
  refine wl_pure tt_ok rfl rfl ?_
  refine wl_nil ?_
  refine wx_then ?_
  refine wc_ret ?_
  simp only [Option.some.injEq] at h
  obtain rfl := h
  exact wx_pf tt_ok (.inl rfl) Tryd.results55 (Res.tmp rfl Res.nil) rfl

theorem k_state_Same {F : Nat} {p0 : T_api_State} {p0a0 : Option Addr} {p0n0 p0c0 : Nat} {p1 : T_api_State} {p1a0 : Option Addr} {p1n0 p1c0 : Nat} {r0 : Bool} (p0N0 : p0n0 = p0.Shots.length) (p0H0 : p0n0 ≤ p0c0) (p1N0 : p1n0 = p1.Shots.length) (p1H0 : p1n0 ≤ p1c0) (h : m_state_Same F p0 p1 = some r0) :
    Pf Tryd.prog 21 [.agg #[.int .u64 p0.Frame, .int .u64 p0.Seed, .int .i32 p0.Players.1.X, .int .i32 p0.Players.1.Y, .int .i32 p0.Players.1.VX, .int .i32 p0.Players.1.VY, .int .u8 p0.Players.1.Health, .int .u8 p0.Players.1.Cool, .int .u8 p0.Players.1.Face, .int .i32 p0.Players.2.X, .int .i32 p0.Players.2.Y, .int .i32 p0.Players.2.VX, .int .i32 p0.Players.2.VY, .int .u8 p0.Players.2.Health, .int .u8 p0.Players.2.Cool, .int .u8 p0.Players.2.Face, .slice p0a0 p0n0 p0c0, .int .u16 p0.Score.1, .int .u16 p0.Score.2], .agg #[.int .u64 p1.Frame, .int .u64 p1.Seed, .int .i32 p1.Players.1.X, .int .i32 p1.Players.1.Y, .int .i32 p1.Players.1.VX, .int .i32 p1.Players.1.VY, .int .u8 p1.Players.1.Health, .int .u8 p1.Players.1.Cool, .int .u8 p1.Players.1.Face, .int .i32 p1.Players.2.X, .int .i32 p1.Players.2.Y, .int .i32 p1.Players.2.VX, .int .i32 p1.Players.2.VY, .int .u8 p1.Players.2.Health, .int .u8 p1.Players.2.Cool, .int .u8 p1.Players.2.Face, .slice p1a0 p1n0 p1c0, .int .u16 p1.Score.1, .int .u16 p1.Score.2]] (fun w => Rds w [] [] p0a0 (flat c_T_api_Shot p0.Shots) ∧ Rds w [] [] p1a0 (flat c_T_api_Shot p1.Shots)) (.bool r0) := by
  unfold m_state_Same at h
  refine pf_of_wc Tryd.func21 rfl Tryd.ntmps21 rfl rfl (fun w0 hR => ?_)
  obtain ⟨p0S0, p1S0⟩ := hR
  refine wc_seq ?_
  refine wc_region ?_
  refine wl_box rfl rfl rfl (fun b2 => ?_)
  refine wl_box rfl rfl rfl (fun b3 => ?_)
  refine wl_pure tt_ok rfl rfl ?_
  refine wl_nil ?_
  refine wx_then ?_
  refine wc_seq ?_
  refine wc_region ?_
  refine wl_pure (v := .pointer (some ⟨b2, 0, none⟩)) tt_ok rfl rfl ?_
  refine wl_val (v := .int .u64 p0.Frame) (val_load tt_ok rfl (List.Mem.tail _ (List.Mem.head _)) rfl) rfl ?_
  refine wl_pure (v := .pointer (some ⟨b3, 0, none⟩)) tt_ok rfl rfl ?_
  refine wl_val (v := .int .u64 p1.Frame) (val_load tt_ok rfl (List.Mem.head _) rfl) rfl ?_
  refine wl_pure (v := .bool (p0.Frame == p1.Frame)) tt_ok rfl rfl ?_
  refine wl_pure tt_ok rfl rfl ?_
  replace h := bsome h; obtain ⟨v16, h, hg16⟩ := h
  refine wl_split (t := 10) rfl (fun hc => ?_) (fun hc => ?_)
  · replace h := ct hc h
    refine wl_run rfl ?_
    refine wl_pure (v := .pointer (some ⟨b2, 1, none⟩)) tt_ok rfl rfl ?_
    refine wl_run rfl ?_
    refine wl_val (v := .int .u64 p0.Seed) (val_load tt_ok rfl (List.Mem.tail _ (List.Mem.head _)) rfl) rfl ?_
    refine wl_run rfl ?_
    refine wl_pure (v := .pointer (some ⟨b3, 1, none⟩)) tt_ok rfl rfl ?_
    refine wl_run rfl ?_
    refine wl_val (v := .int .u64 p1.Seed) (val_load tt_ok rfl (List.Mem.head _) rfl) rfl ?_
    refine wl_run rfl ?_
    refine wl_pure (v := .bool (p0.Seed == p1.Seed)) tt_ok rfl rfl ?_
    simp only [Option.some.injEq, Prod.mk.injEq] at h
    obtain rfl := h
    have h := hg16; clear hg16
    refine wl_pure (v := .bool (p0.Seed == p1.Seed)) tt_ok rfl rfl ?_
    refine wl_pure tt_ok rfl rfl ?_
    replace h := bsome h; obtain ⟨v23, h, hg23⟩ := h
    refine wl_split (t := 17) rfl (fun hc => ?_) (fun hc => ?_)
    · replace h := ct hc h
      refine wl_run rfl ?_
      refine wl_pure (v := .pointer (some ⟨b2, 2, none⟩)) tt_ok rfl rfl ?_
      refine wl_run rfl ?_
      refine wl_val (v := .agg #[.int .i32 p0.Players.1.X, .int .i32 p0.Players.1.Y, .int .i32 p0.Players.1.VX, .int .i32 p0.Players.1.VY, .int .u8 p0.Players.1.Health, .int .u8 p0.Players.1.Cool, .int .u8 p0.Players.1.Face, .int .i32 p0.Players.2.X, .int .i32 p0.Players.2.Y, .int .i32 p0.Players.2.VX, .int .i32 p0.Players.2.VY, .int .u8 p0.Players.2.Health, .int .u8 p0.Players.2.Cool, .int .u8 p0.Players.2.Face]) (val_load tt_ok rfl (List.Mem.tail _ (List.Mem.head _)) rfl) rfl ?_
      refine wl_run rfl ?_
      refine wl_pure (v := .pointer (some ⟨b3, 2, none⟩)) tt_ok rfl rfl ?_
      refine wl_run rfl ?_
      refine wl_val (v := .agg #[.int .i32 p1.Players.1.X, .int .i32 p1.Players.1.Y, .int .i32 p1.Players.1.VX, .int .i32 p1.Players.1.VY, .int .u8 p1.Players.1.Health, .int .u8 p1.Players.1.Cool, .int .u8 p1.Players.1.Face, .int .i32 p1.Players.2.X, .int .i32 p1.Players.2.Y, .int .i32 p1.Players.2.VX, .int .i32 p1.Players.2.VY, .int .u8 p1.Players.2.Health, .int .u8 p1.Players.2.Cool, .int .u8 p1.Players.2.Face]) (val_load tt_ok rfl (List.Mem.head _) rfl) rfl ?_
      refine wl_run rfl ?_
      refine wl_val (v := .bool (((p0.Players.1.X == p1.Players.1.X) && ((p0.Players.1.Y == p1.Players.1.Y) && ((p0.Players.1.VX == p1.Players.1.VX) && ((p0.Players.1.VY == p1.Players.1.VY) && ((p0.Players.1.Health == p1.Players.1.Health) && ((p0.Players.1.Cool == p1.Players.1.Cool) && (p0.Players.1.Face == p1.Players.1.Face))))))) && ((p0.Players.2.X == p1.Players.2.X) && ((p0.Players.2.Y == p1.Players.2.Y) && ((p0.Players.2.VX == p1.Players.2.VX) && ((p0.Players.2.VY == p1.Players.2.VY) && ((p0.Players.2.Health == p1.Players.2.Health) && ((p0.Players.2.Cool == p1.Players.2.Cool) && (p0.Players.2.Face == p1.Players.2.Face))))))))) (val_eqs tt_ok tt_eq tt_one Tryd.eqGuardType25 rfl rfl rfl rfl rfl) rfl ?_
      simp only [Option.some.injEq, Prod.mk.injEq] at h
      obtain rfl := h
      have h := hg23; clear hg23
      refine wl_pure (v := .bool (((p0.Players.1.X == p1.Players.1.X) && ((p0.Players.1.Y == p1.Players.1.Y) && ((p0.Players.1.VX == p1.Players.1.VX) && ((p0.Players.1.VY == p1.Players.1.VY) && ((p0.Players.1.Health == p1.Players.1.Health) && ((p0.Players.1.Cool == p1.Players.1.Cool) && (p0.Players.1.Face == p1.Players.1.Face))))))) && ((p0.Players.2.X == p1.Players.2.X) && ((p0.Players.2.Y == p1.Players.2.Y) && ((p0.Players.2.VX == p1.Players.2.VX) && ((p0.Players.2.VY == p1.Players.2.VY) && ((p0.Players.2.Health == p1.Players.2.Health) && ((p0.Players.2.Cool == p1.Players.2.Cool) && (p0.Players.2.Face == p1.Players.2.Face))))))))) tt_ok rfl rfl ?_
      refine wl_pure tt_ok rfl rfl ?_
      replace h := bsome h; obtain ⟨v30, h, hg30⟩ := h
      refine wl_split (t := 24) rfl (fun hc => ?_) (fun hc => ?_)
      · replace h := ct hc h
        refine wl_run rfl ?_
        refine wl_pure (v := .pointer (some ⟨b2, 17, none⟩)) tt_ok rfl rfl ?_
        refine wl_run rfl ?_
        refine wl_val (v := .agg #[.int .u16 p0.Score.1, .int .u16 p0.Score.2]) (val_load tt_ok rfl (List.Mem.tail _ (List.Mem.head _)) rfl) rfl ?_
        refine wl_run rfl ?_
        refine wl_pure (v := .pointer (some ⟨b3, 17, none⟩)) tt_ok rfl rfl ?_
        refine wl_run rfl ?_
        refine wl_val (v := .agg #[.int .u16 p1.Score.1, .int .u16 p1.Score.2]) (val_load tt_ok rfl (List.Mem.head _) rfl) rfl ?_
        refine wl_run rfl ?_
        refine wl_val (v := .bool ((p0.Score.1 == p1.Score.1) && (p0.Score.2 == p1.Score.2))) (val_eqs tt_ok tt_eq tt_one Tryd.eqGuardType28 rfl rfl rfl rfl rfl) rfl ?_
        simp only [Option.some.injEq, Prod.mk.injEq] at h
        obtain rfl := h
        have h := hg30; clear hg30
        refine wl_pure (v := .bool ((p0.Score.1 == p1.Score.1) && (p0.Score.2 == p1.Score.2))) tt_ok rfl rfl ?_
        refine wl_pure tt_ok rfl rfl ?_
        replace h := bsome h; obtain ⟨v37, h, hg37⟩ := h
        refine wl_split (t := 31) rfl (fun hc => ?_) (fun hc => ?_)
        · replace h := ct hc h
          refine wl_run rfl ?_
          refine wl_pure (v := .pointer (some ⟨b2, 16, none⟩)) tt_ok rfl rfl ?_
          refine wl_run rfl ?_
          refine wl_val (v := .slice p0a0 p0n0 p0c0) (val_load tt_ok rfl (List.Mem.tail _ (List.Mem.head _)) rfl) rfl ?_
          refine wl_run rfl ?_
          refine wl_pure (v := .pointer (some ⟨b3, 16, none⟩)) tt_ok rfl rfl ?_
          refine wl_run rfl ?_
          refine wl_val (v := .slice p1a0 p1n0 p1c0) (val_load tt_ok rfl (List.Mem.head _) rfl) rfl ?_
          replace h := bsome h; obtain ⟨v36, x36, h⟩ := h
          refine wl_run rfl ?_
          refine wl_cq Tryd.call55 rfl rfl rfl (q_pf (k_slices_Equal___api_Shot_api_Shot (p0 := p0.Shots) (p1 := p1.Shots) p0N0 p0H0 p1N0 p1H0 x36) (fun w hI => ⟨(Rds.call p0S0 pNil rsub_nil) w hI, (Rds.call p1S0 pNil rsub_nil) w hI⟩)) rfl ?_
          simp only [Option.some.injEq, Prod.mk.injEq] at h
          obtain rfl := h
          have h := hg37; clear hg37
          refine wl_pure (v := .bool v36) tt_ok rfl rfl ?_
          refine wl_pure tt_ok rfl rfl ?_
          refine wl_nil ?_
          refine wx_then ?_
          refine wc_ret ?_
          simp only [Option.some.injEq] at h
          obtain rfl := h
          exact wx_pf tt_ok (.inl rfl) Tryd.results21 (Res.tmp rfl Res.nil) rfl
        replace h := cf hc h
        refine wl_skip rfl rfl ?_
        refine wl_skip rfl rfl ?_
        refine wl_skip rfl rfl ?_
        refine wl_skip rfl rfl ?_
        refine wl_skip rfl rfl ?_
        simp only [Option.some.injEq, Prod.mk.injEq] at h
        obtain rfl := h
        have h := hg37; clear hg37
        refine wl_pure (v := .bool false) tt_ok rfl rfl ?_
        refine wl_pure tt_ok rfl rfl ?_
        refine wl_nil ?_
        refine wx_then ?_
        refine wc_ret ?_
        simp only [Option.some.injEq] at h
        obtain rfl := h
        exact wx_pf tt_ok (.inl rfl) Tryd.results21 (Res.tmp rfl Res.nil) rfl
      replace h := cf hc h
      refine wl_skip rfl rfl ?_
      refine wl_skip rfl rfl ?_
      refine wl_skip rfl rfl ?_
      refine wl_skip rfl rfl ?_
      refine wl_skip rfl rfl ?_
      simp only [Option.some.injEq, Prod.mk.injEq] at h
      obtain rfl := h
      have h := hg30; clear hg30
      refine wl_pure (v := .bool false) tt_ok rfl rfl ?_
      refine wl_pure tt_ok rfl rfl ?_
      replace h := bsome h; obtain ⟨v37, h, hg37⟩ := h
      replace h := cf rfl h
      refine wl_skip rfl rfl ?_
      refine wl_skip rfl rfl ?_
      refine wl_skip rfl rfl ?_
      refine wl_skip rfl rfl ?_
      refine wl_skip rfl rfl ?_
      simp only [Option.some.injEq, Prod.mk.injEq] at h
      obtain rfl := h
      have h := hg37; clear hg37
      refine wl_pure (v := .bool false) tt_ok rfl rfl ?_
      refine wl_pure tt_ok rfl rfl ?_
      refine wl_nil ?_
      refine wx_then ?_
      refine wc_ret ?_
      simp only [Option.some.injEq] at h
      obtain rfl := h
      exact wx_pf tt_ok (.inl rfl) Tryd.results21 (Res.tmp rfl Res.nil) rfl
    replace h := cf hc h
    refine wl_skip rfl rfl ?_
    refine wl_skip rfl rfl ?_
    refine wl_skip rfl rfl ?_
    refine wl_skip rfl rfl ?_
    refine wl_skip rfl rfl ?_
    simp only [Option.some.injEq, Prod.mk.injEq] at h
    obtain rfl := h
    have h := hg23; clear hg23
    refine wl_pure (v := .bool false) tt_ok rfl rfl ?_
    refine wl_pure tt_ok rfl rfl ?_
    replace h := bsome h; obtain ⟨v30, h, hg30⟩ := h
    replace h := cf rfl h
    refine wl_skip rfl rfl ?_
    refine wl_skip rfl rfl ?_
    refine wl_skip rfl rfl ?_
    refine wl_skip rfl rfl ?_
    refine wl_skip rfl rfl ?_
    simp only [Option.some.injEq, Prod.mk.injEq] at h
    obtain rfl := h
    have h := hg30; clear hg30
    refine wl_pure (v := .bool false) tt_ok rfl rfl ?_
    refine wl_pure tt_ok rfl rfl ?_
    replace h := bsome h; obtain ⟨v37, h, hg37⟩ := h
    replace h := cf rfl h
    refine wl_skip rfl rfl ?_
    refine wl_skip rfl rfl ?_
    refine wl_skip rfl rfl ?_
    refine wl_skip rfl rfl ?_
    refine wl_skip rfl rfl ?_
    simp only [Option.some.injEq, Prod.mk.injEq] at h
    obtain rfl := h
    have h := hg37; clear hg37
    refine wl_pure (v := .bool false) tt_ok rfl rfl ?_
    refine wl_pure tt_ok rfl rfl ?_
    refine wl_nil ?_
    refine wx_then ?_
    refine wc_ret ?_
    simp only [Option.some.injEq] at h
    obtain rfl := h
    exact wx_pf tt_ok (.inl rfl) Tryd.results21 (Res.tmp rfl Res.nil) rfl
  replace h := cf hc h
  refine wl_skip rfl rfl ?_
  refine wl_skip rfl rfl ?_
  refine wl_skip rfl rfl ?_
  refine wl_skip rfl rfl ?_
  refine wl_skip rfl rfl ?_
  simp only [Option.some.injEq, Prod.mk.injEq] at h
  obtain rfl := h
  have h := hg16; clear hg16
  refine wl_pure (v := .bool false) tt_ok rfl rfl ?_
  refine wl_pure tt_ok rfl rfl ?_
  replace h := bsome h; obtain ⟨v23, h, hg23⟩ := h
  replace h := cf rfl h
  refine wl_skip rfl rfl ?_
  refine wl_skip rfl rfl ?_
  refine wl_skip rfl rfl ?_
  refine wl_skip rfl rfl ?_
  refine wl_skip rfl rfl ?_
  simp only [Option.some.injEq, Prod.mk.injEq] at h
  obtain rfl := h
  have h := hg23; clear hg23
  refine wl_pure (v := .bool false) tt_ok rfl rfl ?_
  refine wl_pure tt_ok rfl rfl ?_
  replace h := bsome h; obtain ⟨v30, h, hg30⟩ := h
  replace h := cf rfl h
  refine wl_skip rfl rfl ?_
  refine wl_skip rfl rfl ?_
  refine wl_skip rfl rfl ?_
  refine wl_skip rfl rfl ?_
  refine wl_skip rfl rfl ?_
  simp only [Option.some.injEq, Prod.mk.injEq] at h
  obtain rfl := h
  have h := hg30; clear hg30
  refine wl_pure (v := .bool false) tt_ok rfl rfl ?_
  refine wl_pure tt_ok rfl rfl ?_
  replace h := bsome h; obtain ⟨v37, h, hg37⟩ := h
  replace h := cf rfl h
  refine wl_skip rfl rfl ?_
  refine wl_skip rfl rfl ?_
  refine wl_skip rfl rfl ?_
  refine wl_skip rfl rfl ?_
  refine wl_skip rfl rfl ?_
  simp only [Option.some.injEq, Prod.mk.injEq] at h
  obtain rfl := h
  have h := hg37; clear hg37
  refine wl_pure (v := .bool false) tt_ok rfl rfl ?_
  refine wl_pure tt_ok rfl rfl ?_
  refine wl_nil ?_
  refine wx_then ?_
  refine wc_ret ?_
  simp only [Option.some.injEq] at h
  obtain rfl := h
  exact wx_pf tt_ok (.inl rfl) Tryd.results21 (Res.tmp rfl Res.nil) rfl

theorem k_hindcastlaw08_fails {F : Nat} {p0 : (List UInt8)} {p1 : Int} {r0 : Bool} (h : m_hindcastlaw08_fails F p0 p1 = some r0) :
    Pf Tryd.prog 22 [.string ⟨p0.toArray⟩, .int .i64 p1] (fun w => Rds w [] [] (some ⟨0, 0, none⟩) (flat (fun _ : Unit => gl_state_playerBounds) [()]) ∧ Rds w [] [] (some ⟨1, 0, none⟩) (flat (fun _ : Unit => gl_state_shotBounds) [()])) (.bool r0) := by
  unfold m_hindcastlaw08_fails at h
  refine pf_of_wc Tryd.func22 rfl Tryd.ntmps22 rfl rfl (fun w0 hR => ?_)
  obtain ⟨G0S, G1S⟩ := hR
  refine wc_seq ?_
  refine wc_region ?_
  refine wl_pure tt_ok rfl rfl ?_
  refine wl_nil ?_
  refine wx_then ?_
  refine wc_seq ?_
  refine wc_region ?_
  refine wl_pure tt_ok rfl rfl ?_
  replace h := bsome h; obtain ⟨⟨v9_0, v9_1⟩, x9, h⟩ := h; try dsimp only at h
  refine wl_cs Tryd.call18 rfl rfl rfl (s_sp (k_state_Take x9) pNil (fun w hI => ⟨(Rds.call G0S pNil rsub_nil) w hI, (Rds.call G1S pNil rsub_nil) w hI⟩)) rfl ?_
  rintro _ _ ⟨_, ⟨v9_0a0, v9_0n0, v9_0c0, v9_0B0, v9_0N0, v9_0V0, rfl, rfl⟩, rfl⟩
  refine wl_pure tt_ok rfl rfl ?_
  refine wl_pure tt_ok rfl rfl ?_
  refine wl_pure tt_ok rfl rfl ?_
  refine wl_alloc tt_ok rfl rfl (fun b5 => ?_)
  apply wl_store tt_ok; rfl; exact Upd.here; rfl; rfl; rfl; rfl; rfl; rfl
  refine wl_pure tt_ok rfl rfl ?_
  refine wl_nil ?_
  refine wx_then ?_
  refine wc_seq ?_
  refine wc_region ?_
  refine wl_pure tt_ok rfl rfl ?_
  refine wl_pure tt_ok rfl rfl ?_
  refine wl_pure (v := .bool (v9_1 == p1)) tt_ok rfl rfl ?_
  refine wl_pure tt_ok rfl rfl ?_
  replace h := bsome h; obtain ⟨v19, h, hg19⟩ := h
  refine wl_split (t := 15) rfl (fun hc => ?_) (fun hc => ?_)
  · replace h := ct hc h
    refine wl_run rfl ?_
    refine wl_val (v := .agg #[.int .u64 v9_0.Frame, .int .u64 v9_0.Seed, .int .i32 v9_0.Players.1.X, .int .i32 v9_0.Players.1.Y, .int .i32 v9_0.Players.1.VX, .int .i32 v9_0.Players.1.VY, .int .u8 v9_0.Players.1.Health, .int .u8 v9_0.Players.1.Cool, .int .u8 v9_0.Players.1.Face, .int .i32 v9_0.Players.2.X, .int .i32 v9_0.Players.2.Y, .int .i32 v9_0.Players.2.VX, .int .i32 v9_0.Players.2.VY, .int .u8 v9_0.Players.2.Health, .int .u8 v9_0.Players.2.Cool, .int .u8 v9_0.Players.2.Face, .slice v9_0a0 v9_0n0 v9_0c0, .int .u16 v9_0.Score.1, .int .u16 v9_0.Score.2]) (val_load tt_ok rfl (List.Mem.head _) rfl) rfl ?_
    refine wl_run rfl ?_
    refine wl_pure (v := .agg #[.int .u64 (0 : Int), .int .u64 (0 : Int), .int .i32 (0 : Int), .int .i32 (0 : Int), .int .i32 (0 : Int), .int .i32 (0 : Int), .int .u8 (0 : Int), .int .u8 (0 : Int), .int .u8 (0 : Int), .int .i32 (0 : Int), .int .i32 (0 : Int), .int .i32 (0 : Int), .int .i32 (0 : Int), .int .u8 (0 : Int), .int .u8 (0 : Int), .int .u8 (0 : Int), .slice none 0 0, .int .u16 (0 : Int), .int .u16 (0 : Int)]) tt_ok rfl rfl ?_
    replace h := bsome h; obtain ⟨v18, x18, h⟩ := h
    refine wl_run rfl ?_
    refine wl_cq Tryd.call21 rfl rfl rfl (q_pf (k_state_Same (p0 := v9_0) (p1 := (T_api_State.mk (0 : Int) (0 : Int) ((T_api_Player.mk (0 : Int) (0 : Int) (0 : Int) (0 : Int) (0 : Int) (0 : Int) (0 : Int)), (T_api_Player.mk (0 : Int) (0 : Int) (0 : Int) (0 : Int) (0 : Int) (0 : Int) (0 : Int))) ([] : List T_api_Shot) ((0 : Int), (0 : Int)))) v9_0N0 (vec_cap v9_0V0) rfl (Nat.le_refl _) x18) (fun w hI => ⟨(Rds.call (Rds.of_vec v9_0V0) pNil ⟨_, (Sel.sc Sel.ha)⟩) w hI, (fun _ _ => Rds.nil) w hI⟩)) rfl ?_
    simp only [Option.some.injEq, Prod.mk.injEq] at h
    obtain rfl := h
    have h := hg19; clear hg19
    refine wl_pure (v := .bool v18) tt_ok rfl rfl ?_
    refine wl_pure tt_ok rfl rfl ?_
    refine wl_nil ?_
    refine wx_then ?_
    refine wc_ret ?_
    simp only [Option.some.injEq] at h
    obtain rfl := h
    exact wx_pf tt_ok (.inl rfl) Tryd.results22 (Res.tmp rfl Res.nil) rfl
  replace h := cf hc h
  refine wl_skip rfl rfl ?_
  refine wl_skip rfl rfl ?_
  refine wl_skip rfl rfl ?_
  simp only [Option.some.injEq, Prod.mk.injEq] at h
  obtain rfl := h
  have h := hg19; clear hg19
  refine wl_pure (v := .bool false) tt_ok rfl rfl ?_
  refine wl_pure tt_ok rfl rfl ?_
  refine wl_nil ?_
  refine wx_then ?_
  refine wc_ret ?_
  simp only [Option.some.injEq] at h
  obtain rfl := h
  exact wx_pf tt_ok (.inl rfl) Tryd.results22 (Res.tmp rfl Res.nil) rfl

theorem k_state_Start {F : Nat} {p0 : Int} {r0 : T_api_State} (h : m_state_Start F p0 = some r0) :
    SpD Tryd.prog 16 [.int .u64 p0] [] (fun w => True) (fun v D => ∃ (r0a0 : Option Addr) (r0n0 r0c0 : Nat) (r0B0 : List Blk), r0n0 = r0.Shots.length ∧ Own 50 6 r0a0 r0n0 r0c0 (flat c_T_api_Shot r0.Shots) r0B0 ∧ v = .agg #[.int .u64 r0.Frame, .int .u64 r0.Seed, .int .i32 r0.Players.1.X, .int .i32 r0.Players.1.Y, .int .i32 r0.Players.1.VX, .int .i32 r0.Players.1.VY, .int .u8 r0.Players.1.Health, .int .u8 r0.Players.1.Cool, .int .u8 r0.Players.1.Face, .int .i32 r0.Players.2.X, .int .i32 r0.Players.2.Y, .int .i32 r0.Players.2.VX, .int .i32 r0.Players.2.VY, .int .u8 r0.Players.2.Health, .int .u8 r0.Players.2.Cool, .int .u8 r0.Players.2.Face, .slice r0a0 r0n0 r0c0, .int .u16 r0.Score.1, .int .u16 r0.Score.2] ∧ D = fun F => (r0B0 ++ F)) := by
  unfold m_state_Start at h
  refine sp_of_wc Tryd.func16 rfl Tryd.ntmps16 rfl rfl (fun w0 hR => ?_)
  refine wc_seq ?_
  refine wc_region ?_
  refine wl_alloc tt_ok rfl rfl (fun b2 => ?_)
  refine wl_nil ?_
  refine wx_then ?_
  refine wc_seq ?_
  refine wc_region ?_
  refine wl_pure tt_ok rfl rfl ?_
  refine wl_pure (v := .agg #[.int .u64 (0 : Int), .int .u64 p0, .int .i32 (0 : Int), .int .i32 (0 : Int), .int .i32 (0 : Int), .int .i32 (0 : Int), .int .u8 (0 : Int), .int .u8 (0 : Int), .int .u8 (0 : Int), .int .i32 (0 : Int), .int .i32 (0 : Int), .int .i32 (0 : Int), .int .i32 (0 : Int), .int .u8 (0 : Int), .int .u8 (0 : Int), .int .u8 (0 : Int), .slice none 0 0, .int .u16 (0 : Int), .int .u16 (0 : Int)]) tt_ok rfl rfl ?_
  refine wl_alloc tt_ok rfl rfl (fun b3 => ?_)
  apply wl_store tt_ok; rfl; exact Upd.here; rfl; rfl; rfl; rfl; rfl; rfl
  refine wl_nil ?_
  refine wx_then ?_
  refine wc_seq ?_
  refine wc_seq ?_
  refine wc_region ?_
  refine wl_pure tt_ok rfl rfl ?_
  refine wl_nil ?_
  refine wx_then ?_
  refine wc_block ?_
  replace h := bsome h; obtain ⟨l9_n3_f2, h, hl9⟩ := h
  refine wc_loop (fun m E L => ∃ (j9_7 : Int) (j9_n3_f2 : (T_api_Player × T_api_Player)), m_state_Start_L8 F m j9_7 j9_n3_f2 = some l9_n3_f2 ∧ E = [(2, .pointer (some ⟨b2, 0, none⟩)), (3, .pointer (some ⟨b3, 0, none⟩)), (7, .int .i64 j9_7)] ∧ L = (⟨b2, [.int .u64 (0 : Int), .int .u64 (0 : Int), .int .i32 (0 : Int), .int .i32 (0 : Int), .int .i32 (0 : Int), .int .i32 (0 : Int), .int .u8 (0 : Int), .int .u8 (0 : Int), .int .u8 (0 : Int), .int .i32 (0 : Int), .int .i32 (0 : Int), .int .i32 (0 : Int), .int .i32 (0 : Int), .int .u8 (0 : Int), .int .u8 (0 : Int), .int .u8 (0 : Int), .slice none 0 0, .int .u16 (0 : Int), .int .u16 (0 : Int)], 30, (0, 0)⟩ :: (⟨b3, [.int .u64 (0 : Int), .int .u64 p0, .int .i32 j9_n3_f2.1.X, .int .i32 j9_n3_f2.1.Y, .int .i32 j9_n3_f2.1.VX, .int .i32 j9_n3_f2.1.VY, .int .u8 j9_n3_f2.1.Health, .int .u8 j9_n3_f2.1.Cool, .int .u8 j9_n3_f2.1.Face, .int .i32 j9_n3_f2.2.X, .int .i32 j9_n3_f2.2.Y, .int .i32 j9_n3_f2.2.VX, .int .i32 j9_n3_f2.2.VY, .int .u8 j9_n3_f2.2.Health, .int .u8 j9_n3_f2.2.Cool, .int .u8 j9_n3_f2.2.Face, .slice none 0 0, .int .u16 (0 : Int), .int .u16 (0 : Int)], 30, (0, 0)⟩ :: []))) F ⟨(0 : Int), ((T_api_Player.mk (0 : Int) (0 : Int) (0 : Int) (0 : Int) (0 : Int) (0 : Int) (0 : Int)), (T_api_Player.mk (0 : Int) (0 : Int) (0 : Int) (0 : Int) (0 : Int) (0 : Int) (0 : Int))), h, rfl, rfl⟩ (agree_cons rfl (agree_cons rfl (agree_cons rfl agree_nil))) (pSub (pCons (Sel.sc Sel.hc) (pCons Sel.hc pNil))) ?_
  clear h
  rintro m9 _ _ ⟨j9_7, j9_n3_f2, h, rfl, rfl⟩
  rcases m9 with _ | m9
  · rw [m_state_Start_L8.eq_1] at h; cases h
  rw [m_state_Start_L8.eq_2] at h
  refine wc_seq ?_
  refine wc_region ?_
  refine wl_pure (v := .bool (decide (j9_7 < (2 : Int)))) tt_ok rfl rfl ?_
  refine wl_nil ?_
  refine wx_then ?_
  refine wc_seq ?_
  refine wc_cond rfl (fun hc => ?_) (fun hc => ?_)
  · replace h := ct hc h
    refine wc_skip ?_
    refine wx_then ?_
    refine wc_seq ?_
    refine wc_block ?_
    refine wc_seq ?_
    refine wc_region ?_
    refine wl_pure tt_ok rfl rfl ?_
    refine wl_pure tt_ok rfl rfl ?_
    refine wl_nil ?_
    refine wx_then ?_
    refine wc_region ?_
    refine wl_pure tt_ok rfl rfl ?_
    refine wl_pure tt_ok rfl rfl ?_
    refine wl_pure (v := .int .i32 (IntKind.wrap .i32 j9_7)) tt_ok rfl rfl ?_
    refine wl_pure (v := .int .i32 (IntKind.wrap .i32 ((IntKind.wrap .i32 j9_7) * (45056 : Int)))) tt_ok rfl rfl ?_
    refine wl_pure (v := .int .i32 (IntKind.wrap .i32 ((8192 : Int) + (IntKind.wrap .i32 ((IntKind.wrap .i32 j9_7) * (45056 : Int)))))) tt_ok rfl rfl ?_
    refine wl_pure tt_ok rfl rfl ?_
    refine wl_pure (v := .int .u8 (IntKind.wrap .u8 j9_7)) tt_ok rfl rfl ?_
    refine wl_pure (v := .agg #[.int .i32 (IntKind.wrap .i32 ((8192 : Int) + (IntKind.wrap .i32 ((IntKind.wrap .i32 j9_7) * (45056 : Int))))), .int .i32 (14336 : Int), .int .i32 (0 : Int), .int .i32 (0 : Int), .int .u8 (100 : Int), .int .u8 (0 : Int), .int .u8 (IntKind.wrap .u8 j9_7)]) tt_ok rfl rfl ?_
    refine wl_pure (v := .pointer (some ⟨b3, 2, none⟩)) tt_ok rfl rfl ?_
    rcases Bool.eq_false_or_eq_true (j9_7 == (0 : Int)) with hx190 | hx190
    · replace h := ct hx190 h
      refine wl_val (v := .pointer (some ⟨b3, 2, none⟩)) (val_ia (j := 0) tt_ok rfl rfl rfl rfl (by simpa using hx190) rfl rfl) rfl ?_
      apply wl_store tt_ok; rfl; exact (Upd.there Upd.here); rfl; rfl; rfl; rfl; rfl; rfl
      refine wl_nil ?_
      refine wx_block ?_
      refine wx_then ?_
      refine wc_region ?_
      refine wl_pure (v := .int .i64 (IntKind.wrap .i64 (j9_7 + (1 : Int)))) tt_ok rfl rfl ?_
      refine wl_pure tt_ok rfl rfl ?_
      refine wl_nil ?_
      exact wx_round m9 (Nat.lt_succ_self m9) ⟨(IntKind.wrap .i64 (j9_7 + (1 : Int))), ((T_api_Player.mk (IntKind.wrap .i32 ((8192 : Int) + (IntKind.wrap .i32 ((IntKind.wrap .i32 j9_7) * (45056 : Int))))) (14336 : Int) (0 : Int) (0 : Int) (100 : Int) (0 : Int) (IntKind.wrap .u8 j9_7)), j9_n3_f2.2), h, rfl, rfl⟩ (agree_cons rfl (agree_cons rfl (agree_cons rfl agree_nil))) (pSub (pCons Sel.hc (pCons Sel.hc pNil)))
    replace h := cf hx190 h
    rcases Bool.eq_false_or_eq_true (j9_7 == (1 : Int)) with hx191 | hx191
    · replace h := ct hx191 h
      refine wl_val (v := .pointer (some ⟨b3, 9, none⟩)) (val_ia (j := 1) tt_ok rfl rfl rfl rfl (by simpa using hx191) rfl rfl) rfl ?_
      apply wl_store tt_ok; rfl; exact (Upd.there Upd.here); rfl; rfl; rfl; rfl; rfl; rfl
      refine wl_nil ?_
      refine wx_block ?_
      refine wx_then ?_
      refine wc_region ?_
      refine wl_pure (v := .int .i64 (IntKind.wrap .i64 (j9_7 + (1 : Int)))) tt_ok rfl rfl ?_
      refine wl_pure tt_ok rfl rfl ?_
      refine wl_nil ?_
      exact wx_round m9 (Nat.lt_succ_self m9) ⟨(IntKind.wrap .i64 (j9_7 + (1 : Int))), (j9_n3_f2.1, (T_api_Player.mk (IntKind.wrap .i32 ((8192 : Int) + (IntKind.wrap .i32 ((IntKind.wrap .i32 j9_7) * (45056 : Int))))) (14336 : Int) (0 : Int) (0 : Int) (100 : Int) (0 : Int) (IntKind.wrap .u8 j9_7))), h, rfl, rfl⟩ (agree_cons rfl (agree_cons rfl (agree_cons rfl agree_nil))) (pSub (pCons Sel.hc (pCons Sel.hc pNil)))
    replace h := cf hx191 h
    cases h
  replace h := cf hc h
  refine wc_exit ?_
  refine wx_then_exit ?_
  simp only [Option.some.injEq] at h
  obtain rfl := h
  have h := hl9; clear hl9; try dsimp only [orE_l, orE_r] at h
  refine wx_then_exit ?_
  refine wx_block_exit ?_
  refine wx_then ?_
  refine wc_seq ?_
  refine wc_region ?_
  refine wl_val (v := .agg #[.int .u64 (0 : Int), .int .u64 p0, .int .i32 j9_n3_f2.1.X, .int .i32 j9_n3_f2.1.Y, .int .i32 j9_n3_f2.1.VX, .int .i32 j9_n3_f2.1.VY, .int .u8 j9_n3_f2.1.Health, .int .u8 j9_n3_f2.1.Cool, .int .u8 j9_n3_f2.1.Face, .int .i32 j9_n3_f2.2.X, .int .i32 j9_n3_f2.2.Y, .int .i32 j9_n3_f2.2.VX, .int .i32 j9_n3_f2.2.VY, .int .u8 j9_n3_f2.2.Health, .int .u8 j9_n3_f2.2.Cool, .int .u8 j9_n3_f2.2.Face, .slice none 0 0, .int .u16 (0 : Int), .int .u16 (0 : Int)]) (val_load tt_ok rfl (List.Mem.tail _ (List.Mem.head _)) rfl) rfl ?_
  apply wl_store tt_ok; rfl; exact Upd.here; rfl; rfl; rfl; rfl; rfl; rfl
  refine wl_nil ?_
  refine wx_then ?_
  refine wc_ret ?_
  simp only [Option.some.injEq] at h
  obtain rfl := h
  exact wx_spD tt_ok (.inl rfl) Tryd.results16 (Res.cell rfl (List.Mem.head _) rfl Res.nil) ⟨none, 0, 0, [], rfl, Own.zero, rfl, rfl⟩ (fun F => by simp) (pSub (pNo pNil))

theorem k_hindcastlaw08_first {F : Nat} {r0 : T_api_State} (h : m_hindcastlaw08_first F = some r0) :
    SpD Tryd.prog 23 [] [] (fun w => True) (fun v D => ∃ (r0a0 : Option Addr) (r0n0 r0c0 : Nat) (r0B0 : List Blk), r0n0 = r0.Shots.length ∧ Own 50 6 r0a0 r0n0 r0c0 (flat c_T_api_Shot r0.Shots) r0B0 ∧ v = .agg #[.int .u64 r0.Frame, .int .u64 r0.Seed, .int .i32 r0.Players.1.X, .int .i32 r0.Players.1.Y, .int .i32 r0.Players.1.VX, .int .i32 r0.Players.1.VY, .int .u8 r0.Players.1.Health, .int .u8 r0.Players.1.Cool, .int .u8 r0.Players.1.Face, .int .i32 r0.Players.2.X, .int .i32 r0.Players.2.Y, .int .i32 r0.Players.2.VX, .int .i32 r0.Players.2.VY, .int .u8 r0.Players.2.Health, .int .u8 r0.Players.2.Cool, .int .u8 r0.Players.2.Face, .slice r0a0 r0n0 r0c0, .int .u16 r0.Score.1, .int .u16 r0.Score.2] ∧ D = fun F => (r0B0 ++ F)) := by
  unfold m_hindcastlaw08_first at h
  refine sp_of_wc Tryd.func23 rfl Tryd.ntmps23 rfl rfl (fun w0 hR => ?_)
  refine wc_seq ?_
  refine wc_region ?_
  refine wl_alloc tt_ok rfl rfl (fun b0 => ?_)
  refine wl_nil ?_
  refine wx_then ?_
  refine wc_seq ?_
  refine wc_region ?_
  replace h := bsome h; obtain ⟨v2, x2, h⟩ := h
  refine wl_cs Tryd.call16 rfl rfl rfl (s_sp (k_state_Start x2) pNil (fun _ _ => trivial)) rfl ?_
  rintro _ _ ⟨_, ⟨v2a0, v2n0, v2c0, v2B0, v2N0, v2V0, rfl, rfl⟩, rfl⟩
  refine wl_alloc tt_ok rfl rfl (fun b1 => ?_)
  apply wl_store tt_ok; rfl; exact Upd.here; rfl; rfl; rfl; rfl; rfl; rfl
  refine wl_nil ?_
  refine wx_then ?_
  refine wc_seq ?_
  refine wc_region ?_
  refine wl_pure (v := .agg #[.int .i32 (5 : Int), .int .i32 (6 : Int), .int .i32 (-2048 : Int), .int .i32 (2048 : Int), .int .u8 (1 : Int), .int .u8 (40 : Int)]) tt_ok rfl rfl ?_
  refine wl_chg (chg_bsv (enc := c_T_api_Shot) (xs := ([(T_api_Shot.mk (5 : Int) (6 : Int) (-2048 : Int) (2048 : Int) (1 : Int) (40 : Int))] : List T_api_Shot)) tt_ok rfl rfl rfl rfl rfl rfl rfl rfl c_T_api_Shot_len) rfl ?_
  rintro _ _ ⟨a4, n4_, c4, B4, rfl, N4, V4, rfl⟩
  refine wl_pure (v := .pointer (some ⟨b1, 16, none⟩)) tt_ok rfl rfl ?_
  apply wl_store tt_ok; rfl; exact (Upd.right Upd.here); rfl; rfl; rfl; rfl; rfl; rfl
  refine wl_nil ?_
  refine wx_then ?_
  refine wc_seq ?_
  refine wc_region ?_
  refine wl_val (v := .agg #[.int .u64 v2.Frame, .int .u64 v2.Seed, .int .i32 v2.Players.1.X, .int .i32 v2.Players.1.Y, .int .i32 v2.Players.1.VX, .int .i32 v2.Players.1.VY, .int .u8 v2.Players.1.Health, .int .u8 v2.Players.1.Cool, .int .u8 v2.Players.1.Face, .int .i32 v2.Players.2.X, .int .i32 v2.Players.2.Y, .int .i32 v2.Players.2.VX, .int .i32 v2.Players.2.VY, .int .u8 v2.Players.2.Health, .int .u8 v2.Players.2.Cool, .int .u8 v2.Players.2.Face, .slice a4 n4_ c4, .int .u16 v2.Score.1, .int .u16 v2.Score.2]) (val_load tt_ok rfl (mR (List.Mem.head _)) rfl) rfl ?_
  apply wl_store tt_ok; rfl; exact (Upd.right (Upd.there (Upd.right Upd.here))); rfl; rfl; rfl; rfl; rfl; rfl
  refine wl_nil ?_
  refine wx_then ?_
  refine wc_ret ?_
  simp only [Option.some.injEq] at h
  obtain rfl := h
  exact wx_spD tt_ok (.inl rfl) Tryd.results23 (Res.cell rfl (mR (List.Mem.tail _ (mR (List.Mem.head _)))) rfl Res.nil) ⟨a4, n4_, c4, B4, N4, V4, rfl, rfl⟩ (fun F => by simp) (pSub (pApp Sel.ha pNil))

theorem k_hindcastlaw08_works {F : Nat} {r0 : Bool} (h : m_hindcastlaw08_works F = some r0) :
    Pf Tryd.prog 9 [] (fun w => Rds w [] [] (some ⟨0, 0, none⟩) (flat (fun _ : Unit => gl_state_playerBounds) [()]) ∧ Rds w [] [] (some ⟨1, 0, none⟩) (flat (fun _ : Unit => gl_state_shotBounds) [()])) (.bool r0) := by
  unfold m_hindcastlaw08_works at h
  refine pf_of_wc Tryd.func9 rfl Tryd.ntmps9 rfl rfl (fun w0 hR => ?_)
  obtain ⟨G0S, G1S⟩ := hR
  refine wc_seq ?_
  refine wc_region ?_
  refine wl_pure tt_ok rfl rfl ?_
  refine wl_nil ?_
  refine wx_then ?_
  refine wc_seq ?_
  refine wc_region ?_
  replace h := bsome h; obtain ⟨v4, x4, h⟩ := h
  refine wl_cs Tryd.call23 rfl rfl rfl (s_sp (k_hindcastlaw08_first x4) pNil (fun _ _ => trivial)) rfl ?_
  rintro _ _ ⟨_, ⟨v4a0, v4n0, v4c0, v4B0, v4N0, v4V0, rfl, rfl⟩, rfl⟩
  replace h := bsome h; obtain ⟨v5, x5, h⟩ := h
  refine wl_cq Tryd.call13 rfl rfl rfl (q_pf (k_state_Put (p0 := v4) v4N0 (vec_cap v4V0) x5) (fun w hI => ⟨(Rds.call (Rds.of_vec v4V0) pNil ⟨_, Sel.ha⟩) w hI, (Rds.call G0S pNil rsub_nil) w hI, (Rds.call G1S pNil rsub_nil) w hI⟩)) rfl ?_
  refine wl_pure tt_ok rfl rfl ?_
  refine wl_nil ?_
  refine wx_then ?_
  refine wc_seq ?_
  refine wc_region ?_
  refine wl_pure tt_ok rfl rfl ?_
  replace h := bsome h; obtain ⟨⟨v8_0, v8_1⟩, x8, h⟩ := h; try dsimp only at h
  refine wl_cs Tryd.call18 rfl rfl rfl (s_sp (k_state_Take x8) pNil (fun w hI => ⟨(Rds.call G0S pNil rsub_nil) w hI, (Rds.call G1S pNil rsub_nil) w hI⟩)) rfl ?_
  rintro _ _ ⟨_, ⟨v8_0a0, v8_0n0, v8_0c0, v8_0B0, v8_0N0, v8_0V0, rfl, rfl⟩, rfl⟩
  refine wl_pure tt_ok rfl rfl ?_
  refine wl_pure tt_ok rfl rfl ?_
  refine wl_pure tt_ok rfl rfl ?_
  refine wl_alloc tt_ok rfl rfl (fun b2 => ?_)
  apply wl_store tt_ok; rfl; exact Upd.here; rfl; rfl; rfl; rfl; rfl; rfl
  refine wl_pure tt_ok rfl rfl ?_
  refine wl_nil ?_
  refine wx_then ?_
  refine wc_seq ?_
  refine wc_k2 (Ls := (⟨b2, [.int .u64 v8_0.Frame, .int .u64 v8_0.Seed, .int .i32 v8_0.Players.1.X, .int .i32 v8_0.Players.1.Y, .int .i32 v8_0.Players.1.VX, .int .i32 v8_0.Players.1.VY, .int .u8 v8_0.Players.1.Health, .int .u8 v8_0.Players.1.Cool, .int .u8 v8_0.Players.1.Face, .int .i32 v8_0.Players.2.X, .int .i32 v8_0.Players.2.Y, .int .i32 v8_0.Players.2.VX, .int .i32 v8_0.Players.2.VY, .int .u8 v8_0.Players.2.Health, .int .u8 v8_0.Players.2.Cool, .int .u8 v8_0.Players.2.Face, .slice v8_0a0 v8_0n0 v8_0c0, .int .u16 v8_0.Score.1, .int .u16 v8_0.Score.2], 30, (0, 0)⟩ :: (v8_0B0 ++ (v4B0 ++ [])))) [9, 10, 13, 16, 17] [] [0, 1, 3, 7, 15, 31, 63, 127, 255, 255, 1023, 2047, 4095, 8191, 16383, 32767, 65535, 131071, 262143, 524287, 1048575, 2097151] [0, 1, 2, 3, 4, 5, 6, 7, 8, 9, 10, 11, 12, 13, 14, 15, 16, 17, 18, 19, 20, 21] (by kernel_rfl) (by kernel_rfl) (by kernel_rfl) ?_
  refine k_val rfl rfl rfl (pSub (pCons Sel.hc (pApp Sel.ha (pApp Sel.ha pNil)))) (stepV_ok tt_ok rfl) rfl ?_
  refine k_val (v := .int .i64 (v5.length : Int)) rfl rfl rfl (pSub (pCons Sel.hc (pApp Sel.ha (pApp Sel.ha pNil)))) (stepV_ok tt_ok rfl) rfl ?_
  refine k_val (v := .bool ((v5.length : Int) == (77 : Int))) rfl rfl rfl (pSub (pCons Sel.hc (pApp Sel.ha (pApp Sel.ha pNil)))) (stepV_ok tt_ok rfl) rfl ?_
  refine k_val rfl rfl rfl (pSub (pCons Sel.hc (pApp Sel.ha (pApp Sel.ha pNil)))) (stepV_ok tt_ok rfl) rfl ?_
  replace h := bsome h; obtain ⟨v17, h, hg17⟩ := h
  refine k_split (t := 14) rfl (fun hc => ?_) (fun hc => ?_)
  · replace h := ct hc h
    refine k_val rfl rfl rfl (pSub (pCons Sel.hc (pApp Sel.ha (pApp Sel.ha pNil)))) (stepV_ok tt_ok rfl) rfl ?_
    refine k_val (v := .bool (v8_1 == (0 : Int))) rfl rfl rfl (pSub (pCons Sel.hc (pApp Sel.ha (pApp Sel.ha pNil)))) (stepV_ok tt_ok rfl) rfl ?_
    simp only [Option.some.injEq, Prod.mk.injEq] at h
    obtain rfl := h
    have h := hg17; clear hg17
    refine k_val (v := .bool (v8_1 == (0 : Int))) rfl rfl rfl (pSub (pCons Sel.hc (pApp Sel.ha (pApp Sel.ha pNil)))) (stepV_ok tt_ok rfl) rfl ?_
    refine k_val rfl rfl rfl (pSub (pCons Sel.hc (pApp Sel.ha (pApp Sel.ha pNil)))) (stepV_ok tt_ok rfl) rfl ?_
    replace h := bsome h; obtain ⟨v22, h, hg22⟩ := h
    refine k_split (t := 18) rfl (fun hc => ?_) (fun hc => ?_)
    · replace h := ct hc h
      refine k_val (v := .agg #[.int .u64 v8_0.Frame, .int .u64 v8_0.Seed, .int .i32 v8_0.Players.1.X, .int .i32 v8_0.Players.1.Y, .int .i32 v8_0.Players.1.VX, .int .i32 v8_0.Players.1.VY, .int .u8 v8_0.Players.1.Health, .int .u8 v8_0.Players.1.Cool, .int .u8 v8_0.Players.1.Face, .int .i32 v8_0.Players.2.X, .int .i32 v8_0.Players.2.Y, .int .i32 v8_0.Players.2.VX, .int .i32 v8_0.Players.2.VY, .int .u8 v8_0.Players.2.Health, .int .u8 v8_0.Players.2.Cool, .int .u8 v8_0.Players.2.Face, .slice v8_0a0 v8_0n0 v8_0c0, .int .u16 v8_0.Score.1, .int .u16 v8_0.Score.2]) rfl rfl rfl (pSub (pCons Sel.hc (pApp Sel.ha (pApp Sel.ha pNil)))) (val_load tt_ok rfl (List.Mem.head _) rfl) rfl ?_
      replace h := bsome h; obtain ⟨v20, x20, h⟩ := h
      refine k_cs rfl rfl rfl Tryd.call23 rfl rfl rfl (s_sp (k_hindcastlaw08_first x20) pNil (fun _ _ => trivial)) rfl (.inr (by rintro _ _ ⟨_, ⟨_, _, _, _, _, _, rfl, rfl⟩, rfl⟩; exact ⟨_, (pCons (Sel.sa Sel.hc) (pApp (Sel.sa Sel.ha) (pApp (Sel.sa Sel.ha) pNil)))⟩)) ?_
      rintro _ _ ⟨_, ⟨v20a0, v20n0, v20c0, v20B0, v20N0, v20V0, rfl, rfl⟩, rfl⟩
      replace h := bsome h; obtain ⟨v21, x21, h⟩ := h
      refine k_cq rfl rfl rfl Tryd.call21 rfl rfl rfl (q_pf (k_state_Same (p0 := v8_0) (p1 := v20) v8_0N0 (vec_cap v8_0V0) v20N0 (vec_cap v20V0) x21) (fun w hI => ⟨(Rds.call (Rds.of_vec v8_0V0) pNil ⟨_, (Sel.sa (Sel.sc Sel.ha))⟩) w hI, (Rds.call (Rds.of_vec v20V0) pNil ⟨_, Sel.ha⟩) w hI⟩)) rfl (pSub (pCons (Sel.sa Sel.hc) (pApp (Sel.sa Sel.ha) (pApp (Sel.sa Sel.ha) pNil)))) ?_
      simp only [Option.some.injEq, Prod.mk.injEq] at h
      obtain rfl := h
      have h := hg22; clear hg22
      refine k_val (v := .bool v21) rfl rfl rfl (pSub (pCons (Sel.sa Sel.hc) (pApp (Sel.sa Sel.ha) (pApp (Sel.sa Sel.ha) pNil)))) (stepV_ok tt_ok rfl) rfl ?_
      refine k_val rfl rfl rfl (pSub (pCons (Sel.sa Sel.hc) (pApp (Sel.sa Sel.ha) (pApp (Sel.sa Sel.ha) pNil)))) (stepV_ok tt_ok rfl) rfl ?_
      replace h := bsome h; obtain ⟨v25, h, hg25⟩ := h
      refine k_split (t := 23) rfl (fun hc => ?_) (fun hc => ?_)
      · replace h := ct hc h
        replace h := bsome h; obtain ⟨v24, x24, h⟩ := h
        refine k_cq rfl rfl rfl Tryd.call22 rfl rfl rfl (q_pf (k_hindcastlaw08_fails x24) (fun w hI => ⟨(Rds.call G0S pNil rsub_nil) w hI, (Rds.call G1S pNil rsub_nil) w hI⟩)) rfl (pSub (pCons (Sel.sa Sel.hc) (pApp (Sel.sa Sel.ha) (pApp (Sel.sa Sel.ha) pNil)))) ?_
        simp only [Option.some.injEq, Prod.mk.injEq] at h
        obtain rfl := h
        have h := hg25; clear hg25
        refine k_val (v := .bool v24) rfl rfl rfl (pSub (pCons (Sel.sa Sel.hc) (pApp (Sel.sa Sel.ha) (pApp (Sel.sa Sel.ha) pNil)))) (stepV_ok tt_ok rfl) rfl ?_
        refine k_val rfl rfl rfl (pSub (pCons (Sel.sa Sel.hc) (pApp (Sel.sa Sel.ha) (pApp (Sel.sa Sel.ha) pNil)))) (stepV_ok tt_ok rfl) rfl ?_
        replace h := bsome h; obtain ⟨v31, h, hg31⟩ := h
        refine k_split (t := 26) rfl (fun hc => ?_) (fun hc => ?_)
        · replace h := ct hc h
          replace h := bsome h; obtain ⟨v27, x27, h⟩ := h
          refine k_cs rfl rfl rfl Tryd.call16 rfl rfl rfl (s_sp (k_state_Start x27) pNil (fun _ _ => trivial)) rfl (.inr (by rintro _ _ ⟨_, ⟨_, _, _, _, _, _, rfl, rfl⟩, rfl⟩; exact ⟨_, (pCons (Sel.sa (Sel.sa Sel.hc)) (pApp (Sel.sa (Sel.sa Sel.ha)) (pApp (Sel.sa (Sel.sa Sel.ha)) pNil)))⟩)) ?_
          rintro _ _ ⟨_, ⟨v27a0, v27n0, v27c0, v27B0, v27N0, v27V0, rfl, rfl⟩, rfl⟩
          replace h := bsome h; obtain ⟨v28, x28, h⟩ := h
          refine k_cq rfl rfl rfl Tryd.call13 rfl rfl rfl (q_pf (k_state_Put (p0 := v27) v27N0 (vec_cap v27V0) x28) (fun w hI => ⟨(Rds.call (Rds.of_vec v27V0) pNil ⟨_, Sel.ha⟩) w hI, (Rds.call G0S pNil rsub_nil) w hI, (Rds.call G1S pNil rsub_nil) w hI⟩)) rfl (pSub (pCons (Sel.sa (Sel.sa Sel.hc)) (pApp (Sel.sa (Sel.sa Sel.ha)) (pApp (Sel.sa (Sel.sa Sel.ha)) pNil)))) ?_
          refine k_val (v := .int .i64 (v28.length : Int)) rfl rfl rfl (pSub (pCons (Sel.sa (Sel.sa Sel.hc)) (pApp (Sel.sa (Sel.sa Sel.ha)) (pApp (Sel.sa (Sel.sa Sel.ha)) pNil)))) (stepV_ok tt_ok rfl) rfl ?_
          refine k_val (v := .bool ((v28.length : Int) == (59 : Int))) rfl rfl rfl (pSub (pCons (Sel.sa (Sel.sa Sel.hc)) (pApp (Sel.sa (Sel.sa Sel.ha)) (pApp (Sel.sa (Sel.sa Sel.ha)) pNil)))) (stepV_ok tt_ok rfl) rfl ?_
          simp only [Option.some.injEq, Prod.mk.injEq] at h
          obtain rfl := h
          have h := hg31; clear hg31
          refine k_val (v := .bool ((v28.length : Int) == (59 : Int))) rfl rfl rfl (pSub (pCons (Sel.sa (Sel.sa Sel.hc)) (pApp (Sel.sa (Sel.sa Sel.ha)) (pApp (Sel.sa (Sel.sa Sel.ha)) pNil)))) (stepV_ok tt_ok rfl) rfl ?_
          refine k_val rfl rfl rfl (pSub (pCons (Sel.sa (Sel.sa Sel.hc)) (pApp (Sel.sa (Sel.sa Sel.ha)) (pApp (Sel.sa (Sel.sa Sel.ha)) pNil)))) (stepV_ok tt_ok rfl) rfl ?_
          refine k_end (by kernel_rfl) ?_
          refine wx_then ?_
          refine wc_ret ?_
          simp only [Option.some.injEq] at h
          obtain rfl := h
          exact wx_pf tt_ok (.inl rfl) Tryd.results9 (Res.tmp rfl Res.nil) rfl
        replace h := cf hc h
        refine k_skip rfl rfl (pSub (pCons (Sel.sa Sel.hc) (pApp (Sel.sa Sel.ha) (pApp (Sel.sa Sel.ha) pNil)))) rfl ?_
        refine k_skip rfl rfl (pSub (pCons (Sel.sa Sel.hc) (pApp (Sel.sa Sel.ha) (pApp (Sel.sa Sel.ha) pNil)))) rfl ?_
        refine k_skip rfl rfl (pSub (pCons (Sel.sa Sel.hc) (pApp (Sel.sa Sel.ha) (pApp (Sel.sa Sel.ha) pNil)))) rfl ?_
        refine k_skip rfl rfl (pSub (pCons (Sel.sa Sel.hc) (pApp (Sel.sa Sel.ha) (pApp (Sel.sa Sel.ha) pNil)))) rfl ?_
        simp only [Option.some.injEq, Prod.mk.injEq] at h
        obtain rfl := h
        have h := hg31; clear hg31
        refine k_val (v := .bool false) rfl rfl rfl (pSub (pCons (Sel.sa Sel.hc) (pApp (Sel.sa Sel.ha) (pApp (Sel.sa Sel.ha) pNil)))) (stepV_ok tt_ok rfl) rfl ?_
        refine k_val rfl rfl rfl (pSub (pCons (Sel.sa Sel.hc) (pApp (Sel.sa Sel.ha) (pApp (Sel.sa Sel.ha) pNil)))) (stepV_ok tt_ok rfl) rfl ?_
        refine k_end (by kernel_rfl) ?_
        refine wx_then ?_
        refine wc_ret ?_
        simp only [Option.some.injEq] at h
        obtain rfl := h
        exact wx_pf tt_ok (.inl rfl) Tryd.results9 (Res.tmp rfl Res.nil) rfl
      replace h := cf hc h
      refine k_skip rfl rfl (pSub (pCons (Sel.sa Sel.hc) (pApp (Sel.sa Sel.ha) (pApp (Sel.sa Sel.ha) pNil)))) rfl ?_
      simp only [Option.some.injEq, Prod.mk.injEq] at h
      obtain rfl := h
      have h := hg25; clear hg25
      refine k_val (v := .bool false) rfl rfl rfl (pSub (pCons (Sel.sa Sel.hc) (pApp (Sel.sa Sel.ha) (pApp (Sel.sa Sel.ha) pNil)))) (stepV_ok tt_ok rfl) rfl ?_
      refine k_val rfl rfl rfl (pSub (pCons (Sel.sa Sel.hc) (pApp (Sel.sa Sel.ha) (pApp (Sel.sa Sel.ha) pNil)))) (stepV_ok tt_ok rfl) rfl ?_
      replace h := bsome h; obtain ⟨v31, h, hg31⟩ := h
      replace h := cf rfl h
      refine k_skip rfl rfl (pSub (pCons (Sel.sa Sel.hc) (pApp (Sel.sa Sel.ha) (pApp (Sel.sa Sel.ha) pNil)))) rfl ?_
      refine k_skip rfl rfl (pSub (pCons (Sel.sa Sel.hc) (pApp (Sel.sa Sel.ha) (pApp (Sel.sa Sel.ha) pNil)))) rfl ?_
      refine k_skip rfl rfl (pSub (pCons (Sel.sa Sel.hc) (pApp (Sel.sa Sel.ha) (pApp (Sel.sa Sel.ha) pNil)))) rfl ?_
      refine k_skip rfl rfl (pSub (pCons (Sel.sa Sel.hc) (pApp (Sel.sa Sel.ha) (pApp (Sel.sa Sel.ha) pNil)))) rfl ?_
      simp only [Option.some.injEq, Prod.mk.injEq] at h
      obtain rfl := h
      have h := hg31; clear hg31
      refine k_val (v := .bool false) rfl rfl rfl (pSub (pCons (Sel.sa Sel.hc) (pApp (Sel.sa Sel.ha) (pApp (Sel.sa Sel.ha) pNil)))) (stepV_ok tt_ok rfl) rfl ?_
      refine k_val rfl rfl rfl (pSub (pCons (Sel.sa Sel.hc) (pApp (Sel.sa Sel.ha) (pApp (Sel.sa Sel.ha) pNil)))) (stepV_ok tt_ok rfl) rfl ?_
      refine k_end (by kernel_rfl) ?_
      refine wx_then ?_
      refine wc_ret ?_
      simp only [Option.some.injEq] at h
      obtain rfl := h
      exact wx_pf tt_ok (.inl rfl) Tryd.results9 (Res.tmp rfl Res.nil) rfl
    replace h := cf hc h
    refine k_skip rfl rfl (pSub (pCons Sel.hc (pApp Sel.ha (pApp Sel.ha pNil)))) rfl ?_
    refine k_skip rfl rfl (pSub (pCons Sel.hc (pApp Sel.ha (pApp Sel.ha pNil)))) rfl ?_
    refine k_skip rfl rfl (pSub (pCons Sel.hc (pApp Sel.ha (pApp Sel.ha pNil)))) rfl ?_
    simp only [Option.some.injEq, Prod.mk.injEq] at h
    obtain rfl := h
    have h := hg22; clear hg22
    refine k_val (v := .bool false) rfl rfl rfl (pSub (pCons Sel.hc (pApp Sel.ha (pApp Sel.ha pNil)))) (stepV_ok tt_ok rfl) rfl ?_
    refine k_val rfl rfl rfl (pSub (pCons Sel.hc (pApp Sel.ha (pApp Sel.ha pNil)))) (stepV_ok tt_ok rfl) rfl ?_
    replace h := bsome h; obtain ⟨v25, h, hg25⟩ := h
    replace h := cf rfl h
    refine k_skip rfl rfl (pSub (pCons Sel.hc (pApp Sel.ha (pApp Sel.ha pNil)))) rfl ?_
    simp only [Option.some.injEq, Prod.mk.injEq] at h
    obtain rfl := h
    have h := hg25; clear hg25
    refine k_val (v := .bool false) rfl rfl rfl (pSub (pCons Sel.hc (pApp Sel.ha (pApp Sel.ha pNil)))) (stepV_ok tt_ok rfl) rfl ?_
    refine k_val rfl rfl rfl (pSub (pCons Sel.hc (pApp Sel.ha (pApp Sel.ha pNil)))) (stepV_ok tt_ok rfl) rfl ?_
    replace h := bsome h; obtain ⟨v31, h, hg31⟩ := h
    replace h := cf rfl h
    refine k_skip rfl rfl (pSub (pCons Sel.hc (pApp Sel.ha (pApp Sel.ha pNil)))) rfl ?_
    refine k_skip rfl rfl (pSub (pCons Sel.hc (pApp Sel.ha (pApp Sel.ha pNil)))) rfl ?_
    refine k_skip rfl rfl (pSub (pCons Sel.hc (pApp Sel.ha (pApp Sel.ha pNil)))) rfl ?_
    refine k_skip rfl rfl (pSub (pCons Sel.hc (pApp Sel.ha (pApp Sel.ha pNil)))) rfl ?_
    simp only [Option.some.injEq, Prod.mk.injEq] at h
    obtain rfl := h
    have h := hg31; clear hg31
    refine k_val (v := .bool false) rfl rfl rfl (pSub (pCons Sel.hc (pApp Sel.ha (pApp Sel.ha pNil)))) (stepV_ok tt_ok rfl) rfl ?_
    refine k_val rfl rfl rfl (pSub (pCons Sel.hc (pApp Sel.ha (pApp Sel.ha pNil)))) (stepV_ok tt_ok rfl) rfl ?_
    refine k_end (by kernel_rfl) ?_
    refine wx_then ?_
    refine wc_ret ?_
    simp only [Option.some.injEq] at h
    obtain rfl := h
    exact wx_pf tt_ok (.inl rfl) Tryd.results9 (Res.tmp rfl Res.nil) rfl
  replace h := cf hc h
  refine k_skip rfl rfl (pSub (pCons Sel.hc (pApp Sel.ha (pApp Sel.ha pNil)))) rfl ?_
  refine k_skip rfl rfl (pSub (pCons Sel.hc (pApp Sel.ha (pApp Sel.ha pNil)))) rfl ?_
  simp only [Option.some.injEq, Prod.mk.injEq] at h
  obtain rfl := h
  have h := hg17; clear hg17
  refine k_val (v := .bool false) rfl rfl rfl (pSub (pCons Sel.hc (pApp Sel.ha (pApp Sel.ha pNil)))) (stepV_ok tt_ok rfl) rfl ?_
  refine k_val rfl rfl rfl (pSub (pCons Sel.hc (pApp Sel.ha (pApp Sel.ha pNil)))) (stepV_ok tt_ok rfl) rfl ?_
  replace h := bsome h; obtain ⟨v22, h, hg22⟩ := h
  replace h := cf rfl h
  refine k_skip rfl rfl (pSub (pCons Sel.hc (pApp Sel.ha (pApp Sel.ha pNil)))) rfl ?_
  refine k_skip rfl rfl (pSub (pCons Sel.hc (pApp Sel.ha (pApp Sel.ha pNil)))) rfl ?_
  refine k_skip rfl rfl (pSub (pCons Sel.hc (pApp Sel.ha (pApp Sel.ha pNil)))) rfl ?_
  simp only [Option.some.injEq, Prod.mk.injEq] at h
  obtain rfl := h
  have h := hg22; clear hg22
  refine k_val (v := .bool false) rfl rfl rfl (pSub (pCons Sel.hc (pApp Sel.ha (pApp Sel.ha pNil)))) (stepV_ok tt_ok rfl) rfl ?_
  refine k_val rfl rfl rfl (pSub (pCons Sel.hc (pApp Sel.ha (pApp Sel.ha pNil)))) (stepV_ok tt_ok rfl) rfl ?_
  replace h := bsome h; obtain ⟨v25, h, hg25⟩ := h
  replace h := cf rfl h
  refine k_skip rfl rfl (pSub (pCons Sel.hc (pApp Sel.ha (pApp Sel.ha pNil)))) rfl ?_
  simp only [Option.some.injEq, Prod.mk.injEq] at h
  obtain rfl := h
  have h := hg25; clear hg25
  refine k_val (v := .bool false) rfl rfl rfl (pSub (pCons Sel.hc (pApp Sel.ha (pApp Sel.ha pNil)))) (stepV_ok tt_ok rfl) rfl ?_
  refine k_val rfl rfl rfl (pSub (pCons Sel.hc (pApp Sel.ha (pApp Sel.ha pNil)))) (stepV_ok tt_ok rfl) rfl ?_
  replace h := bsome h; obtain ⟨v31, h, hg31⟩ := h
  replace h := cf rfl h
  refine k_skip rfl rfl (pSub (pCons Sel.hc (pApp Sel.ha (pApp Sel.ha pNil)))) rfl ?_
  refine k_skip rfl rfl (pSub (pCons Sel.hc (pApp Sel.ha (pApp Sel.ha pNil)))) rfl ?_
  refine k_skip rfl rfl (pSub (pCons Sel.hc (pApp Sel.ha (pApp Sel.ha pNil)))) rfl ?_
  refine k_skip rfl rfl (pSub (pCons Sel.hc (pApp Sel.ha (pApp Sel.ha pNil)))) rfl ?_
  simp only [Option.some.injEq, Prod.mk.injEq] at h
  obtain rfl := h
  have h := hg31; clear hg31
  refine k_val (v := .bool false) rfl rfl rfl (pSub (pCons Sel.hc (pApp Sel.ha (pApp Sel.ha pNil)))) (stepV_ok tt_ok rfl) rfl ?_
  refine k_val rfl rfl rfl (pSub (pCons Sel.hc (pApp Sel.ha (pApp Sel.ha pNil)))) (stepV_ok tt_ok rfl) rfl ?_
  refine k_end (by kernel_rfl) ?_
  refine wx_then ?_
  refine wc_ret ?_
  simp only [Option.some.injEq] at h
  obtain rfl := h
  exact wx_pf tt_ok (.inl rfl) Tryd.results9 (Res.tmp rfl Res.nil) rfl

theorem k_hindcastlaw08_StateBack {F : Nat} {p0 : T_api_State} {p0a0 : Option Addr} {p0n0 p0c0 : Nat} {p1 : T_api_State} {p1a0 : Option Addr} {p1n0 p1c0 : Nat} {p2 : Int} {r0 : Bool} (p0N0 : p0n0 = p0.Shots.length) (p0H0 : p0n0 ≤ p0c0) (p1N0 : p1n0 = p1.Shots.length) (p1H0 : p1n0 ≤ p1c0) (h : m_hindcastlaw08_StateBack F p0 p1 p2 = some r0) :
    Pf Tryd.prog 5 [.agg #[.int .u64 p0.Frame, .int .u64 p0.Seed, .int .i32 p0.Players.1.X, .int .i32 p0.Players.1.Y, .int .i32 p0.Players.1.VX, .int .i32 p0.Players.1.VY, .int .u8 p0.Players.1.Health, .int .u8 p0.Players.1.Cool, .int .u8 p0.Players.1.Face, .int .i32 p0.Players.2.X, .int .i32 p0.Players.2.Y, .int .i32 p0.Players.2.VX, .int .i32 p0.Players.2.VY, .int .u8 p0.Players.2.Health, .int .u8 p0.Players.2.Cool, .int .u8 p0.Players.2.Face, .slice p0a0 p0n0 p0c0, .int .u16 p0.Score.1, .int .u16 p0.Score.2], .agg #[.int .u64 p1.Frame, .int .u64 p1.Seed, .int .i32 p1.Players.1.X, .int .i32 p1.Players.1.Y, .int .i32 p1.Players.1.VX, .int .i32 p1.Players.1.VY, .int .u8 p1.Players.1.Health, .int .u8 p1.Players.1.Cool, .int .u8 p1.Players.1.Face, .int .i32 p1.Players.2.X, .int .i32 p1.Players.2.Y, .int .i32 p1.Players.2.VX, .int .i32 p1.Players.2.VY, .int .u8 p1.Players.2.Health, .int .u8 p1.Players.2.Cool, .int .u8 p1.Players.2.Face, .slice p1a0 p1n0 p1c0, .int .u16 p1.Score.1, .int .u16 p1.Score.2], .int .u16 p2] (fun w => Rds w [] [] p0a0 (flat c_T_api_Shot p0.Shots) ∧ Rds w [] [] p1a0 (flat c_T_api_Shot p1.Shots) ∧ Rds w [] [] (some ⟨0, 0, none⟩) (flat (fun _ : Unit => gl_state_playerBounds) [()]) ∧ Rds w [] [] (some ⟨1, 0, none⟩) (flat (fun _ : Unit => gl_state_shotBounds) [()])) (.bool r0) := by
  unfold m_hindcastlaw08_StateBack at h
  refine pf_of_wc Tryd.func5 rfl Tryd.ntmps5 rfl rfl (fun w0 hR => ?_)
  obtain ⟨p0S0, p1S0, G0S, G1S⟩ := hR
  refine wc_seq ?_
  refine wc_region ?_
  refine wl_box rfl rfl rfl (fun b3 => ?_)
  refine wl_box rfl rfl rfl (fun b4 => ?_)
  refine wl_pure tt_ok rfl rfl ?_
  refine wl_nil ?_
  refine wx_then ?_
  refine wc_seq ?_
  replace h := bsome h; obtain ⟨v14, x14, h⟩ := h
  replace h := bsome h; obtain ⟨v16, x16, h⟩ := h
  refine wc_join2 (fun E L => ∃ (b7 : Nat) (b8 : Nat) (v14a0 : Option Addr) (v14n0 : Nat) (v14c0 : Nat) (v14B0 : List Blk) (v16a0 : Option Addr) (v16n0 : Nat) (v16c0 : Nat) (v16B0 : List Blk), v14n0 = v14.Shots.length ∧ Own 50 6 v14a0 v14n0 v14c0 (flat c_T_api_Shot v14.Shots) v14B0 ∧ v16n0 = v16.Shots.length ∧ Own 50 6 v16a0 v16n0 v16c0 (flat c_T_api_Shot v16.Shots) v16B0 ∧ E = [(2, .int .u16 p2), (6, .bool false), (7, .pointer (some ⟨b7, 0, none⟩)), (8, .pointer (some ⟨b8, 0, none⟩))] ∧ L = (⟨b7, [.int .u64 v14.Frame, .int .u64 v14.Seed, .int .i32 v14.Players.1.X, .int .i32 v14.Players.1.Y, .int .i32 v14.Players.1.VX, .int .i32 v14.Players.1.VY, .int .u8 v14.Players.1.Health, .int .u8 v14.Players.1.Cool, .int .u8 v14.Players.1.Face, .int .i32 v14.Players.2.X, .int .i32 v14.Players.2.Y, .int .i32 v14.Players.2.VX, .int .i32 v14.Players.2.VY, .int .u8 v14.Players.2.Health, .int .u8 v14.Players.2.Cool, .int .u8 v14.Players.2.Face, .slice v14a0 v14n0 v14c0, .int .u16 v14.Score.1, .int .u16 v14.Score.2], 30, (0, 0)⟩ :: (⟨b8, [.int .u64 v16.Frame, .int .u64 v16.Seed, .int .i32 v16.Players.1.X, .int .i32 v16.Players.1.Y, .int .i32 v16.Players.1.VX, .int .i32 v16.Players.1.VY, .int .u8 v16.Players.1.Health, .int .u8 v16.Players.1.Cool, .int .u8 v16.Players.1.Face, .int .i32 v16.Players.2.X, .int .i32 v16.Players.2.Y, .int .i32 v16.Players.2.VX, .int .i32 v16.Players.2.VY, .int .u8 v16.Players.2.Health, .int .u8 v16.Players.2.Cool, .int .u8 v16.Players.2.Face, .slice v16a0 v16n0 v16c0, .int .u16 v16.Score.1, .int .u16 v16.Score.2], 30, (0, 0)⟩ :: (v14B0 ++ (v16B0 ++ []))))) ?_ ?_
  · refine wc_k2 (Ls := (⟨b4, [.int .u64 p1.Frame, .int .u64 p1.Seed, .int .i32 p1.Players.1.X, .int .i32 p1.Players.1.Y, .int .i32 p1.Players.1.VX, .int .i32 p1.Players.1.VY, .int .u8 p1.Players.1.Health, .int .u8 p1.Players.1.Cool, .int .u8 p1.Players.1.Face, .int .i32 p1.Players.2.X, .int .i32 p1.Players.2.Y, .int .i32 p1.Players.2.VX, .int .i32 p1.Players.2.VY, .int .u8 p1.Players.2.Health, .int .u8 p1.Players.2.Cool, .int .u8 p1.Players.2.Face, .slice p1a0 p1n0 p1c0, .int .u16 p1.Score.1, .int .u16 p1.Score.2], 30, (0, 0)⟩ :: (⟨b3, [.int .u64 p0.Frame, .int .u64 p0.Seed, .int .i32 p0.Players.1.X, .int .i32 p0.Players.1.Y, .int .i32 p0.Players.1.VX, .int .i32 p0.Players.1.VY, .int .u8 p0.Players.1.Health, .int .u8 p0.Players.1.Cool, .int .u8 p0.Players.1.Face, .int .i32 p0.Players.2.X, .int .i32 p0.Players.2.Y, .int .i32 p0.Players.2.VX, .int .i32 p0.Players.2.VY, .int .u8 p0.Players.2.Health, .int .u8 p0.Players.2.Cool, .int .u8 p0.Players.2.Face, .slice p0a0 p0n0 p0c0, .int .u16 p0.Score.1, .int .u16 p0.Score.2], 30, (0, 0)⟩ :: []))) [1, 3, 4, 5, 6, 7] [3, 6, 7] [0, 1, 0, 7, 0, 0, 63, 127] [0, 2] (by kernel_rfl) (by kernel_rfl) (by kernel_rfl) ?_
    refine k_val (v := .agg #[.int .u64 p0.Frame, .int .u64 p0.Seed, .int .i32 p0.Players.1.X, .int .i32 p0.Players.1.Y, .int .i32 p0.Players.1.VX, .int .i32 p0.Players.1.VY, .int .u8 p0.Players.1.Health, .int .u8 p0.Players.1.Cool, .int .u8 p0.Players.1.Face, .int .i32 p0.Players.2.X, .int .i32 p0.Players.2.Y, .int .i32 p0.Players.2.VX, .int .i32 p0.Players.2.VY, .int .u8 p0.Players.2.Health, .int .u8 p0.Players.2.Cool, .int .u8 p0.Players.2.Face, .slice p0a0 p0n0 p0c0, .int .u16 p0.Score.1, .int .u16 p0.Score.2]) rfl rfl rfl (pSub (pCons Sel.hc (pCons Sel.hc pNil))) (val_load tt_ok rfl (List.Mem.tail _ (List.Mem.head _)) rfl) rfl ?_
    refine k_val (v := .agg #[.int .u64 p1.Frame, .int .u64 p1.Seed, .int .i32 p1.Players.1.X, .int .i32 p1.Players.1.Y, .int .i32 p1.Players.1.VX, .int .i32 p1.Players.1.VY, .int .u8 p1.Players.1.Health, .int .u8 p1.Players.1.Cool, .int .u8 p1.Players.1.Face, .int .i32 p1.Players.2.X, .int .i32 p1.Players.2.Y, .int .i32 p1.Players.2.VX, .int .i32 p1.Players.2.VY, .int .u8 p1.Players.2.Health, .int .u8 p1.Players.2.Cool, .int .u8 p1.Players.2.Face, .slice p1a0 p1n0 p1c0, .int .u16 p1.Score.1, .int .u16 p1.Score.2]) rfl rfl rfl (pSub (pCons Sel.hc (pCons Sel.hc pNil))) (val_load tt_ok rfl (List.Mem.head _) rfl) rfl ?_
    refine k_three (i := 1) (j := 4) (k := 5) (t1 := []) (t2 := []) (t3 := []) (by kernel_rfl) (by kernel_rfl) (by kernel_rfl) (by kernel_rfl) (by kernel_rfl) ?_ ?_ ?_
    · refine k_csf rfl rfl Tryd.call20 rfl rfl rfl (s_sp (k_hindcastlaw08_made (p0 := p0) p0N0 p0H0 x14) pNil (Rds.call p0S0 pNil rsub_nil)) rfl (.inr (by rintro _ _ ⟨_, ⟨_, _, _, _, _, _, rfl, rfl⟩, rfl⟩; exact ⟨_, (pCons (Sel.sa Sel.hc) (pCons (Sel.sa Sel.hc) pNil))⟩)) ?_
      rintro _ _ ⟨_, ⟨v14a0, v14n0, v14c0, v14B0, v14N0, v14V0, rfl, rfl⟩, rfl⟩
      refine k_three (i := 3) (j := 4) (k := 5) (t1 := []) (t2 := []) (t3 := []) (by kernel_rfl) (by kernel_rfl) (by kernel_rfl) (by kernel_rfl) (by kernel_rfl) ?_ ?_ ?_
      · refine k_csf rfl rfl Tryd.call20 rfl rfl rfl (s_sp (k_hindcastlaw08_made (p0 := p1) p1N0 p1H0 x16) pNil (Rds.call p1S0 pNil rsub_nil)) rfl (.inl rfl) ?_
        rintro _ _ ⟨_, ⟨v16a0, v16n0, v16c0, v16B0, v16N0, v16V0, rfl, rfl⟩, rfl⟩
        refine k_two (i := 4) (j := 5) (t1 := [5, 6, 7]) (t2 := [4, 6, 7]) (by kernel_rfl) (by kernel_rfl) (by kernel_rfl) (by kernel_rfl) ?_ ?_
        · refine k_chgf rfl rfl (chg_alloc tt_ok rfl) rfl (.inr (by rintro _ _ ⟨_, rfl, rfl⟩; exact ⟨_, (pCons (Sel.sc (Sel.sa (Sel.sa Sel.hc))) (pCons (Sel.sc (Sel.sa (Sel.sa Sel.hc))) pNil))⟩)) ?_
          rintro _ _ ⟨b7, rfl, rfl⟩
          refine k_chg rfl rfl rfl (chg_alloc tt_ok rfl) rfl (.inr (by rintro _ _ ⟨_, rfl, rfl⟩; exact ⟨_, (pCons (Sel.sc (Sel.sc (Sel.sa (Sel.sa Sel.hc)))) (pCons (Sel.sc (Sel.sc (Sel.sa (Sel.sa Sel.hc)))) pNil))⟩)) ?_
          rintro _ _ ⟨b8, rfl, rfl⟩
          refine k_chg0 rfl rfl rfl (chg_store tt_ok rfl (Upd.there Upd.here) rfl rfl rfl rfl rfl rfl) (.inl rfl) ?_
          rintro _ _ rfl
          refine k_chg0 rfl rfl rfl (chg_store tt_ok rfl Upd.here rfl rfl rfl rfl rfl rfl) (.inl rfl) ?_
          rintro _ _ rfl
          refine k_end (by kernel_rfl) ?_
          exact wx_join ⟨b7, b8, v14a0, v14n0, v14c0, v14B0, v16a0, v16n0, v16c0, v16B0, v14N0, v14V0, v16N0, v16V0, rfl, rfl⟩ (agree_cons rfl (agree_cons rfl (agree_cons rfl (agree_cons rfl agree_nil)))) (pSub (pCons (Sel.sc Sel.hc) (pCons Sel.hc (pApp (Sel.sa Sel.ha) (pApp Sel.ha pNil)))))
        refine k_chgf rfl rfl (chg_alloc tt_ok rfl) rfl (.inr (by rintro _ _ ⟨_, rfl, rfl⟩; exact ⟨_, (pCons (Sel.sc (Sel.sa (Sel.sa Sel.hc))) (pCons (Sel.sc (Sel.sa (Sel.sa Sel.hc))) pNil))⟩)) ?_
        rintro _ _ ⟨b8, rfl, rfl⟩
        refine k_chg rfl rfl rfl (chg_alloc tt_ok rfl) rfl (.inr (by rintro _ _ ⟨_, rfl, rfl⟩; exact ⟨_, (pCons (Sel.sc (Sel.sc (Sel.sa (Sel.sa Sel.hc)))) (pCons (Sel.sc (Sel.sc (Sel.sa (Sel.sa Sel.hc)))) pNil))⟩)) ?_
        rintro _ _ ⟨b7, rfl, rfl⟩
        refine k_chg0 rfl rfl rfl (chg_store tt_ok rfl Upd.here rfl rfl rfl rfl rfl rfl) (.inl rfl) ?_
        rintro _ _ rfl
        refine k_chg0 rfl rfl rfl (chg_store tt_ok rfl (Upd.there Upd.here) rfl rfl rfl rfl rfl rfl) (.inl rfl) ?_
        rintro _ _ rfl
        refine k_end (by kernel_rfl) ?_
        exact wx_join ⟨b7, b8, v14a0, v14n0, v14c0, v14B0, v16a0, v16n0, v16c0, v16B0, v14N0, v14V0, v16N0, v16V0, rfl, rfl⟩ (agree_cons rfl (agree_cons rfl (agree_cons rfl (agree_cons rfl agree_nil)))) (pSub (pCons Sel.hc (pCons Sel.hc (pApp (Sel.sa Sel.ha) (pApp Sel.ha pNil)))))
      · refine k_chgf rfl rfl (chg_alloc tt_ok rfl) rfl (.inr (by rintro _ _ ⟨_, rfl, rfl⟩; exact ⟨_, (pCons (Sel.sc (Sel.sa Sel.hc)) (pCons (Sel.sc (Sel.sa Sel.hc)) pNil))⟩)) ?_
        rintro _ _ ⟨b7, rfl, rfl⟩
        refine k_two (i := 3) (j := 5) (t1 := [5, 6, 7]) (t2 := [3, 6, 7]) (by kernel_rfl) (by kernel_rfl) (by kernel_rfl) (by kernel_rfl) ?_ ?_
        · refine k_csf rfl rfl Tryd.call20 rfl rfl rfl (s_sp (k_hindcastlaw08_made (p0 := p1) p1N0 p1H0 x16) pNil (Rds.call p1S0 pNil rsub_nil)) rfl (.inl rfl) ?_
          rintro _ _ ⟨_, ⟨v16a0, v16n0, v16c0, v16B0, v16N0, v16V0, rfl, rfl⟩, rfl⟩
          refine k_chg rfl rfl rfl (chg_alloc tt_ok rfl) rfl (.inr (by rintro _ _ ⟨_, rfl, rfl⟩; exact ⟨_, (pCons (Sel.sc (Sel.sa (Sel.sc (Sel.sa Sel.hc)))) (pCons (Sel.sc (Sel.sa (Sel.sc (Sel.sa Sel.hc)))) pNil))⟩)) ?_
          rintro _ _ ⟨b8, rfl, rfl⟩
          refine k_chg0 rfl rfl rfl (chg_store tt_ok rfl (Upd.there (Upd.right Upd.here)) rfl rfl rfl rfl rfl rfl) (.inl rfl) ?_
          rintro _ _ rfl
          refine k_chg0 rfl rfl rfl (chg_store tt_ok rfl Upd.here rfl rfl rfl rfl rfl rfl) (.inl rfl) ?_
          rintro _ _ rfl
          refine k_end (by kernel_rfl) ?_
          exact wx_join ⟨b7, b8, v14a0, v14n0, v14c0, v14B0, v16a0, v16n0, v16c0, v16B0, v14N0, v14V0, v16N0, v16V0, rfl, rfl⟩ (agree_cons rfl (agree_cons rfl (agree_cons rfl (agree_cons rfl agree_nil)))) (pSub (pCons (Sel.sc (Sel.sa Sel.hc)) (pCons Sel.hc (pApp (Sel.sa Sel.ha) (pApp Sel.ha pNil)))))
        refine k_chgf rfl rfl (chg_alloc tt_ok rfl) rfl (.inr (by rintro _ _ ⟨_, rfl, rfl⟩; exact ⟨_, (pCons (Sel.sc (Sel.sc (Sel.sa Sel.hc))) (pCons (Sel.sc (Sel.sc (Sel.sa Sel.hc))) pNil))⟩)) ?_
        rintro _ _ ⟨b8, rfl, rfl⟩
        refine k_cs rfl rfl rfl Tryd.call20 rfl rfl rfl (s_sp (k_hindcastlaw08_made (p0 := p1) p1N0 p1H0 x16) pNil (Rds.call p1S0 pNil rsub_nil)) rfl (.inl rfl) ?_
        rintro _ _ ⟨_, ⟨v16a0, v16n0, v16c0, v16B0, v16N0, v16V0, rfl, rfl⟩, rfl⟩
        refine k_chg0 rfl rfl rfl (chg_store tt_ok rfl (Upd.right (Upd.there Upd.here)) rfl rfl rfl rfl rfl rfl) (.inl rfl) ?_
        rintro _ _ rfl
        refine k_chg0 rfl rfl rfl (chg_store tt_ok rfl (Upd.right Upd.here) rfl rfl rfl rfl rfl rfl) (.inl rfl) ?_
        rintro _ _ rfl
        refine k_end (by kernel_rfl) ?_
        exact wx_join ⟨b7, b8, v14a0, v14n0, v14c0, v14B0, v16a0, v16n0, v16c0, v16B0, v14N0, v14V0, v16N0, v16V0, rfl, rfl⟩ (agree_cons rfl (agree_cons rfl (agree_cons rfl (agree_cons rfl agree_nil)))) (pSub (pCons (Sel.sa (Sel.sc Sel.hc)) (pCons (Sel.sa Sel.hc) (pApp (Sel.sa Sel.ha) (pApp Sel.ha pNil)))))
      refine k_chgf rfl rfl (chg_alloc tt_ok rfl) rfl (.inr (by rintro _ _ ⟨_, rfl, rfl⟩; exact ⟨_, (pCons (Sel.sc (Sel.sa Sel.hc)) (pCons (Sel.sc (Sel.sa Sel.hc)) pNil))⟩)) ?_
      rintro _ _ ⟨b8, rfl, rfl⟩
      refine k_two (i := 3) (j := 4) (t1 := [4, 6, 7]) (t2 := [3, 6, 7]) (by kernel_rfl) (by kernel_rfl) (by kernel_rfl) (by kernel_rfl) ?_ ?_
      · refine k_csf rfl rfl Tryd.call20 rfl rfl rfl (s_sp (k_hindcastlaw08_made (p0 := p1) p1N0 p1H0 x16) pNil (Rds.call p1S0 pNil rsub_nil)) rfl (.inl rfl) ?_
        rintro _ _ ⟨_, ⟨v16a0, v16n0, v16c0, v16B0, v16N0, v16V0, rfl, rfl⟩, rfl⟩
        refine k_chg rfl rfl rfl (chg_alloc tt_ok rfl) rfl (.inr (by rintro _ _ ⟨_, rfl, rfl⟩; exact ⟨_, (pCons (Sel.sc (Sel.sa (Sel.sc (Sel.sa Sel.hc)))) (pCons (Sel.sc (Sel.sa (Sel.sc (Sel.sa Sel.hc)))) pNil))⟩)) ?_
        rintro _ _ ⟨b7, rfl, rfl⟩
        refine k_chg0 rfl rfl rfl (chg_store tt_ok rfl Upd.here rfl rfl rfl rfl rfl rfl) (.inl rfl) ?_
        rintro _ _ rfl
        refine k_chg0 rfl rfl rfl (chg_store tt_ok rfl (Upd.there (Upd.right Upd.here)) rfl rfl rfl rfl rfl rfl) (.inl rfl) ?_
        rintro _ _ rfl
        refine k_end (by kernel_rfl) ?_
        exact wx_join ⟨b7, b8, v14a0, v14n0, v14c0, v14B0, v16a0, v16n0, v16c0, v16B0, v14N0, v14V0, v16N0, v16V0, rfl, rfl⟩ (agree_cons rfl (agree_cons rfl (agree_cons rfl (agree_cons rfl agree_nil)))) (pSub (pCons Sel.hc (pCons (Sel.sa Sel.hc) (pApp (Sel.sa Sel.ha) (pApp Sel.ha pNil)))))
      refine k_chgf rfl rfl (chg_alloc tt_ok rfl) rfl (.inr (by rintro _ _ ⟨_, rfl, rfl⟩; exact ⟨_, (pCons (Sel.sc (Sel.sc (Sel.sa Sel.hc))) (pCons (Sel.sc (Sel.sc (Sel.sa Sel.hc))) pNil))⟩)) ?_
      rintro _ _ ⟨b7, rfl, rfl⟩
      refine k_cs rfl rfl rfl Tryd.call20 rfl rfl rfl (s_sp (k_hindcastlaw08_made (p0 := p1) p1N0 p1H0 x16) pNil (Rds.call p1S0 pNil rsub_nil)) rfl (.inl rfl) ?_
      rintro _ _ ⟨_, ⟨v16a0, v16n0, v16c0, v16B0, v16N0, v16V0, rfl, rfl⟩, rfl⟩
      refine k_chg0 rfl rfl rfl (chg_store tt_ok rfl (Upd.right Upd.here) rfl rfl rfl rfl rfl rfl) (.inl rfl) ?_
      rintro _ _ rfl
      refine k_chg0 rfl rfl rfl (chg_store tt_ok rfl (Upd.right (Upd.there Upd.here)) rfl rfl rfl rfl rfl rfl) (.inl rfl) ?_
      rintro _ _ rfl
      refine k_end (by kernel_rfl) ?_
      exact wx_join ⟨b7, b8, v14a0, v14n0, v14c0, v14B0, v16a0, v16n0, v16c0, v16B0, v14N0, v14V0, v16N0, v16V0, rfl, rfl⟩ (agree_cons rfl (agree_cons rfl (agree_cons rfl (agree_cons rfl agree_nil)))) (pSub (pCons (Sel.sa Sel.hc) (pCons (Sel.sa Sel.hc) (pApp (Sel.sa Sel.ha) (pApp Sel.ha pNil)))))
    · refine k_chgf rfl rfl (chg_alloc tt_ok rfl) rfl (.inr (by rintro _ _ ⟨_, rfl, rfl⟩; exact ⟨_, (pCons (Sel.sc Sel.hc) (pCons (Sel.sc Sel.hc) pNil))⟩)) ?_
      rintro _ _ ⟨b7, rfl, rfl⟩
      refine k_two (i := 1) (j := 5) (t1 := []) (t2 := [1, 3, 6, 7]) (by kernel_rfl) (by kernel_rfl) (by kernel_rfl) (by kernel_rfl) ?_ ?_
      · refine k_csf rfl rfl Tryd.call20 rfl rfl rfl (s_sp (k_hindcastlaw08_made (p0 := p0) p0N0 p0H0 x14) pNil (Rds.call p0S0 pNil rsub_nil)) rfl (.inr (by rintro _ _ ⟨_, ⟨_, _, _, _, _, _, rfl, rfl⟩, rfl⟩; exact ⟨_, (pCons (Sel.sa (Sel.sc Sel.hc)) (pCons (Sel.sa (Sel.sc Sel.hc)) pNil))⟩)) ?_
        rintro _ _ ⟨_, ⟨v14a0, v14n0, v14c0, v14B0, v14N0, v14V0, rfl, rfl⟩, rfl⟩
        refine k_two (i := 3) (j := 5) (t1 := [5, 6, 7]) (t2 := [3, 6, 7]) (by kernel_rfl) (by kernel_rfl) (by kernel_rfl) (by kernel_rfl) ?_ ?_
        · refine k_csf rfl rfl Tryd.call20 rfl rfl rfl (s_sp (k_hindcastlaw08_made (p0 := p1) p1N0 p1H0 x16) pNil (Rds.call p1S0 pNil rsub_nil)) rfl (.inl rfl) ?_
          rintro _ _ ⟨_, ⟨v16a0, v16n0, v16c0, v16B0, v16N0, v16V0, rfl, rfl⟩, rfl⟩
          refine k_chg rfl rfl rfl (chg_alloc tt_ok rfl) rfl (.inr (by rintro _ _ ⟨_, rfl, rfl⟩; exact ⟨_, (pCons (Sel.sc (Sel.sa (Sel.sa (Sel.sc Sel.hc)))) (pCons (Sel.sc (Sel.sa (Sel.sa (Sel.sc Sel.hc)))) pNil))⟩)) ?_
          rintro _ _ ⟨b8, rfl, rfl⟩
          refine k_chg0 rfl rfl rfl (chg_store tt_ok rfl (Upd.there (Upd.right (Upd.right Upd.here))) rfl rfl rfl rfl rfl rfl) (.inl rfl) ?_
          rintro _ _ rfl
          refine k_chg0 rfl rfl rfl (chg_store tt_ok rfl Upd.here rfl rfl rfl rfl rfl rfl) (.inl rfl) ?_
          rintro _ _ rfl
          refine k_end (by kernel_rfl) ?_
          exact wx_join ⟨b7, b8, v14a0, v14n0, v14c0, v14B0, v16a0, v16n0, v16c0, v16B0, v14N0, v14V0, v16N0, v16V0, rfl, rfl⟩ (agree_cons rfl (agree_cons rfl (agree_cons rfl (agree_cons rfl agree_nil)))) (pSub (pCons (Sel.sc (Sel.sa (Sel.sa Sel.hc))) (pCons Sel.hc (pApp (Sel.sa Sel.ha) (pApp Sel.ha pNil)))))
        refine k_chgf rfl rfl (chg_alloc tt_ok rfl) rfl (.inr (by rintro _ _ ⟨_, rfl, rfl⟩; exact ⟨_, (pCons (Sel.sc (Sel.sa (Sel.sc Sel.hc))) (pCons (Sel.sc (Sel.sa (Sel.sc Sel.hc))) pNil))⟩)) ?_
        rintro _ _ ⟨b8, rfl, rfl⟩
        refine k_cs rfl rfl rfl Tryd.call20 rfl rfl rfl (s_sp (k_hindcastlaw08_made (p0 := p1) p1N0 p1H0 x16) pNil (Rds.call p1S0 pNil rsub_nil)) rfl (.inl rfl) ?_
        rintro _ _ ⟨_, ⟨v16a0, v16n0, v16c0, v16B0, v16N0, v16V0, rfl, rfl⟩, rfl⟩
        refine k_chg0 rfl rfl rfl (chg_store tt_ok rfl (Upd.right (Upd.there (Upd.right Upd.here))) rfl rfl rfl rfl rfl rfl) (.inl rfl) ?_
        rintro _ _ rfl
        refine k_chg0 rfl rfl rfl (chg_store tt_ok rfl (Upd.right Upd.here) rfl rfl rfl rfl rfl rfl) (.inl rfl) ?_
        rintro _ _ rfl
        refine k_end (by kernel_rfl) ?_
        exact wx_join ⟨b7, b8, v14a0, v14n0, v14c0, v14B0, v16a0, v16n0, v16c0, v16B0, v14N0, v14V0, v16N0, v16V0, rfl, rfl⟩ (agree_cons rfl (agree_cons rfl (agree_cons rfl (agree_cons rfl agree_nil)))) (pSub (pCons (Sel.sa (Sel.sc (Sel.sa Sel.hc))) (pCons (Sel.sa Sel.hc) (pApp (Sel.sa Sel.ha) (pApp Sel.ha pNil)))))
      refine k_chgf rfl rfl (chg_alloc tt_ok rfl) rfl (.inr (by rintro _ _ ⟨_, rfl, rfl⟩; exact ⟨_, (pCons (Sel.sc (Sel.sc Sel.hc)) (pCons (Sel.sc (Sel.sc Sel.hc)) pNil))⟩)) ?_
      rintro _ _ ⟨b8, rfl, rfl⟩
      refine k_cs rfl rfl rfl Tryd.call20 rfl rfl rfl (s_sp (k_hindcastlaw08_made (p0 := p0) p0N0 p0H0 x14) pNil (Rds.call p0S0 pNil rsub_nil)) rfl (.inr (by rintro _ _ ⟨_, ⟨_, _, _, _, _, _, rfl, rfl⟩, rfl⟩; exact ⟨_, (pCons (Sel.sa (Sel.sc (Sel.sc Sel.hc))) (pCons (Sel.sa (Sel.sc (Sel.sc Sel.hc))) pNil))⟩)) ?_
      rintro _ _ ⟨_, ⟨v14a0, v14n0, v14c0, v14B0, v14N0, v14V0, rfl, rfl⟩, rfl⟩
      refine k_cs rfl rfl rfl Tryd.call20 rfl rfl rfl (s_sp (k_hindcastlaw08_made (p0 := p1) p1N0 p1H0 x16) pNil (Rds.call p1S0 pNil rsub_nil)) rfl (.inl rfl) ?_
      rintro _ _ ⟨_, ⟨v16a0, v16n0, v16c0, v16B0, v16N0, v16V0, rfl, rfl⟩, rfl⟩
      refine k_chg0 rfl rfl rfl (chg_store tt_ok rfl (Upd.right (Upd.right (Upd.there Upd.here))) rfl rfl rfl rfl rfl rfl) (.inl rfl) ?_
      rintro _ _ rfl
      refine k_chg0 rfl rfl rfl (chg_store tt_ok rfl (Upd.right (Upd.right Upd.here)) rfl rfl rfl rfl rfl rfl) (.inl rfl) ?_
      rintro _ _ rfl
      refine k_end (by kernel_rfl) ?_
      exact wx_join ⟨b7, b8, v14a0, v14n0, v14c0, v14B0, v16a0, v16n0, v16c0, v16B0, v14N0, v14V0, v16N0, v16V0, rfl, rfl⟩ (agree_cons rfl (agree_cons rfl (agree_cons rfl (agree_cons rfl agree_nil)))) (pSub (pCons (Sel.sa (Sel.sa (Sel.sc Sel.hc))) (pCons (Sel.sa (Sel.sa Sel.hc)) (pApp (Sel.sa Sel.ha) (pApp Sel.ha pNil)))))
    refine k_chgf rfl rfl (chg_alloc tt_ok rfl) rfl (.inr (by rintro _ _ ⟨_, rfl, rfl⟩; exact ⟨_, (pCons (Sel.sc Sel.hc) (pCons (Sel.sc Sel.hc) pNil))⟩)) ?_
    rintro _ _ ⟨b8, rfl, rfl⟩
    refine k_two (i := 1) (j := 4) (t1 := []) (t2 := [1, 3, 6, 7]) (by kernel_rfl) (by kernel_rfl) (by kernel_rfl) (by kernel_rfl) ?_ ?_
    · refine k_csf rfl rfl Tryd.call20 rfl rfl rfl (s_sp (k_hindcastlaw08_made (p0 := p0) p0N0 p0H0 x14) pNil (Rds.call p0S0 pNil rsub_nil)) rfl (.inr (by rintro _ _ ⟨_, ⟨_, _, _, _, _, _, rfl, rfl⟩, rfl⟩; exact ⟨_, (pCons (Sel.sa (Sel.sc Sel.hc)) (pCons (Sel.sa (Sel.sc Sel.hc)) pNil))⟩)) ?_
      rintro _ _ ⟨_, ⟨v14a0, v14n0, v14c0, v14B0, v14N0, v14V0, rfl, rfl⟩, rfl⟩
      refine k_two (i := 3) (j := 4) (t1 := [4, 6, 7]) (t2 := [3, 6, 7]) (by kernel_rfl) (by kernel_rfl) (by kernel_rfl) (by kernel_rfl) ?_ ?_
      · refine k_csf rfl rfl Tryd.call20 rfl rfl rfl (s_sp (k_hindcastlaw08_made (p0 := p1) p1N0 p1H0 x16) pNil (Rds.call p1S0 pNil rsub_nil)) rfl (.inl rfl) ?_
        rintro _ _ ⟨_, ⟨v16a0, v16n0, v16c0, v16B0, v16N0, v16V0, rfl, rfl⟩, rfl⟩
        refine k_chg rfl rfl rfl (chg_alloc tt_ok rfl) rfl (.inr (by rintro _ _ ⟨_, rfl, rfl⟩; exact ⟨_, (pCons (Sel.sc (Sel.sa (Sel.sa (Sel.sc Sel.hc)))) (pCons (Sel.sc (Sel.sa (Sel.sa (Sel.sc Sel.hc)))) pNil))⟩)) ?_
        rintro _ _ ⟨b7, rfl, rfl⟩
        refine k_chg0 rfl rfl rfl (chg_store tt_ok rfl Upd.here rfl rfl rfl rfl rfl rfl) (.inl rfl) ?_
        rintro _ _ rfl
        refine k_chg0 rfl rfl rfl (chg_store tt_ok rfl (Upd.there (Upd.right (Upd.right Upd.here))) rfl rfl rfl rfl rfl rfl) (.inl rfl) ?_
        rintro _ _ rfl
        refine k_end (by kernel_rfl) ?_
        exact wx_join ⟨b7, b8, v14a0, v14n0, v14c0, v14B0, v16a0, v16n0, v16c0, v16B0, v14N0, v14V0, v16N0, v16V0, rfl, rfl⟩ (agree_cons rfl (agree_cons rfl (agree_cons rfl (agree_cons rfl agree_nil)))) (pSub (pCons Sel.hc (pCons (Sel.sa (Sel.sa Sel.hc)) (pApp (Sel.sa Sel.ha) (pApp Sel.ha pNil)))))
      refine k_chgf rfl rfl (chg_alloc tt_ok rfl) rfl (.inr (by rintro _ _ ⟨_, rfl, rfl⟩; exact ⟨_, (pCons (Sel.sc (Sel.sa (Sel.sc Sel.hc))) (pCons (Sel.sc (Sel.sa (Sel.sc Sel.hc))) pNil))⟩)) ?_
      rintro _ _ ⟨b7, rfl, rfl⟩
      refine k_cs rfl rfl rfl Tryd.call20 rfl rfl rfl (s_sp (k_hindcastlaw08_made (p0 := p1) p1N0 p1H0 x16) pNil (Rds.call p1S0 pNil rsub_nil)) rfl (.inl rfl) ?_
      rintro _ _ ⟨_, ⟨v16a0, v16n0, v16c0, v16B0, v16N0, v16V0, rfl, rfl⟩, rfl⟩
      refine k_chg0 rfl rfl rfl (chg_store tt_ok rfl (Upd.right Upd.here) rfl rfl rfl rfl rfl rfl) (.inl rfl) ?_
      rintro _ _ rfl
      refine k_chg0 rfl rfl rfl (chg_store tt_ok rfl (Upd.right (Upd.there (Upd.right Upd.here))) rfl rfl rfl rfl rfl rfl) (.inl rfl) ?_
      rintro _ _ rfl
      refine k_end (by kernel_rfl) ?_
      exact wx_join ⟨b7, b8, v14a0, v14n0, v14c0, v14B0, v16a0, v16n0, v16c0, v16B0, v14N0, v14V0, v16N0, v16V0, rfl, rfl⟩ (agree_cons rfl (agree_cons rfl (agree_cons rfl (agree_cons rfl agree_nil)))) (pSub (pCons (Sel.sa Sel.hc) (pCons (Sel.sa (Sel.sa Sel.hc)) (pApp (Sel.sa Sel.ha) (pApp Sel.ha pNil)))))
    refine k_chgf rfl rfl (chg_alloc tt_ok rfl) rfl (.inr (by rintro _ _ ⟨_, rfl, rfl⟩; exact ⟨_, (pCons (Sel.sc (Sel.sc Sel.hc)) (pCons (Sel.sc (Sel.sc Sel.hc)) pNil))⟩)) ?_
    rintro _ _ ⟨b7, rfl, rfl⟩
    refine k_cs rfl rfl rfl Tryd.call20 rfl rfl rfl (s_sp (k_hindcastlaw08_made (p0 := p0) p0N0 p0H0 x14) pNil (Rds.call p0S0 pNil rsub_nil)) rfl (.inr (by rintro _ _ ⟨_, ⟨_, _, _, _, _, _, rfl, rfl⟩, rfl⟩; exact ⟨_, (pCons (Sel.sa (Sel.sc (Sel.sc Sel.hc))) (pCons (Sel.sa (Sel.sc (Sel.sc Sel.hc))) pNil))⟩)) ?_
    rintro _ _ ⟨_, ⟨v14a0, v14n0, v14c0, v14B0, v14N0, v14V0, rfl, rfl⟩, rfl⟩
    refine k_cs rfl rfl rfl Tryd.call20 rfl rfl rfl (s_sp (k_hindcastlaw08_made (p0 := p1) p1N0 p1H0 x16) pNil (Rds.call p1S0 pNil rsub_nil)) rfl (.inl rfl) ?_
    rintro _ _ ⟨_, ⟨v16a0, v16n0, v16c0, v16B0, v16N0, v16V0, rfl, rfl⟩, rfl⟩
    refine k_chg0 rfl rfl rfl (chg_store tt_ok rfl (Upd.right (Upd.right Upd.here)) rfl rfl rfl rfl rfl rfl) (.inl rfl) ?_
    rintro _ _ rfl
    refine k_chg0 rfl rfl rfl (chg_store tt_ok rfl (Upd.right (Upd.right (Upd.there Upd.here))) rfl rfl rfl rfl rfl rfl) (.inl rfl) ?_
    rintro _ _ rfl
    refine k_end (by kernel_rfl) ?_
    exact wx_join ⟨b7, b8, v14a0, v14n0, v14c0, v14B0, v16a0, v16n0, v16c0, v16B0, v14N0, v14V0, v16N0, v16V0, rfl, rfl⟩ (agree_cons rfl (agree_cons rfl (agree_cons rfl (agree_cons rfl agree_nil)))) (pSub (pCons (Sel.sa (Sel.sa Sel.hc)) (pCons (Sel.sa (Sel.sa Sel.hc)) (pApp (Sel.sa Sel.ha) (pApp Sel.ha pNil)))))
  rintro _ _ ⟨b7, b8, v14a0, v14n0, v14c0, v14B0, v16a0, v16n0, v16c0, v16B0, v14N0, v14V0, v16N0, v16V0, rfl, rfl⟩
  refine wc_seq ?_
  refine wc_quiet (by kernel_rfl) (by kernel_rfl) ?_
  refine wq_val (v := .agg #[.int .u64 v14.Frame, .int .u64 v14.Seed, .int .i32 v14.Players.1.X, .int .i32 v14.Players.1.Y, .int .i32 v14.Players.1.VX, .int .i32 v14.Players.1.VY, .int .u8 v14.Players.1.Health, .int .u8 v14.Players.1.Cool, .int .u8 v14.Players.1.Face, .int .i32 v14.Players.2.X, .int .i32 v14.Players.2.Y, .int .i32 v14.Players.2.VX, .int .i32 v14.Players.2.VY, .int .u8 v14.Players.2.Health, .int .u8 v14.Players.2.Cool, .int .u8 v14.Players.2.Face, .slice v14a0 v14n0 v14c0, .int .u16 v14.Score.1, .int .u16 v14.Score.2]) (val_load tt_ok rfl (List.Mem.head _) rfl) rfl ?_
  replace h := bsome h; obtain ⟨v18, x18, h⟩ := h
  refine wq_cq Tryd.call13 rfl rfl rfl (q_pf (k_state_Put (p0 := v14) v14N0 (vec_cap v14V0) x18) (fun w hI => ⟨(Rds.call (Rds.of_vec v14V0) pNil ⟨_, (Sel.sc (Sel.sc Sel.ha))⟩) w hI, (Rds.call G0S pNil rsub_nil) w hI, (Rds.call G1S pNil rsub_nil) w hI⟩)) rfl ?_
  refine wq_val (v := .agg #[.int .u64 v16.Frame, .int .u64 v16.Seed, .int .i32 v16.Players.1.X, .int .i32 v16.Players.1.Y, .int .i32 v16.Players.1.VX, .int .i32 v16.Players.1.VY, .int .u8 v16.Players.1.Health, .int .u8 v16.Players.1.Cool, .int .u8 v16.Players.1.Face, .int .i32 v16.Players.2.X, .int .i32 v16.Players.2.Y, .int .i32 v16.Players.2.VX, .int .i32 v16.Players.2.VY, .int .u8 v16.Players.2.Health, .int .u8 v16.Players.2.Cool, .int .u8 v16.Players.2.Face, .slice v16a0 v16n0 v16c0, .int .u16 v16.Score.1, .int .u16 v16.Score.2]) (val_load tt_ok rfl (List.Mem.tail _ (List.Mem.head _)) rfl) rfl ?_
  replace h := bsome h; obtain ⟨v20, x20, h⟩ := h
  refine wq_cq Tryd.call13 rfl rfl rfl (q_pf (k_state_Put (p0 := v16) v16N0 (vec_cap v16V0) x20) (fun w hI => ⟨(Rds.call (Rds.of_vec v16V0) pNil ⟨_, (Sel.sc (Sel.sc (Sel.sa Sel.ha)))⟩) w hI, (Rds.call G0S pNil rsub_nil) w hI, (Rds.call G1S pNil rsub_nil) w hI⟩)) rfl ?_
  refine wq_pure tt_ok rfl rfl ?_
  refine wq_pure tt_ok rfl rfl ?_
  refine wq_nil ?_
  refine wx_then ?_
  refine wc_seq ?_
  refine wc_seq ?_
  refine wc_region ?_
  refine wl_pure tt_ok rfl rfl ?_
  refine wl_val (v := .bool (v18 == ([] : List UInt8))) (val_seq tt_ok rfl rfl) rfl ?_
  refine wl_pure tt_ok rfl rfl ?_
  replace h := bsome h; obtain ⟨v26, h, hg26⟩ := h
  refine wl_split (t := 23) rfl (fun hc => ?_) (fun hc => ?_)
  · replace h := ct hc h
    refine wl_skip rfl rfl ?_
    refine wl_skip rfl rfl ?_
    simp only [Option.some.injEq, Prod.mk.injEq] at h
    obtain rfl := h
    have h := hg26; clear hg26
    refine wl_pure (v := .bool true) tt_ok rfl rfl ?_
    refine wl_pure tt_ok rfl rfl ?_
    replace h := bsome h; obtain ⟨v31, h, hg31⟩ := h
    replace h := ct rfl h
    refine wl_skip rfl rfl ?_
    refine wl_skip rfl rfl ?_
    refine wl_skip rfl rfl ?_
    simp only [Option.some.injEq, Prod.mk.injEq] at h
    obtain rfl := h
    have h := hg31; clear hg31
    refine wl_pure (v := .bool true) tt_ok rfl rfl ?_
    refine wl_nil ?_
    refine wx_then ?_
    replace h := ct rfl h
    refine wc_cond_true rfl ?_
    refine wc_seq ?_
    refine wc_region ?_
    refine wl_pure tt_ok rfl rfl ?_
    refine wl_nil ?_
    refine wx_then ?_
    refine wc_ret ?_
    refine wx_then_ret ?_
    simp only [Option.some.injEq] at h
    obtain rfl := h
    exact wx_pf tt_ok (.inl rfl) Tryd.results5 (Res.tmp rfl Res.nil) rfl
  replace h := cf hc h
  refine wl_run rfl ?_
  refine wl_pure tt_ok rfl rfl ?_
  refine wl_run rfl ?_
  refine wl_val (v := .bool (v20 == ([] : List UInt8))) (val_seq tt_ok rfl rfl) rfl ?_
  simp only [Option.some.injEq, Prod.mk.injEq] at h
  obtain rfl := h
  have h := hg26; clear hg26
  refine wl_pure (v := .bool (v20 == ([] : List UInt8))) tt_ok rfl rfl ?_
  refine wl_pure tt_ok rfl rfl ?_
  replace h := bsome h; obtain ⟨v31, h, hg31⟩ := h
  refine wl_split (t := 27) rfl (fun hc => ?_) (fun hc => ?_)
  · replace h := ct hc h
    refine wl_skip rfl rfl ?_
    refine wl_skip rfl rfl ?_
    refine wl_skip rfl rfl ?_
    simp only [Option.some.injEq, Prod.mk.injEq] at h
    obtain rfl := h
    have h := hg31; clear hg31
    refine wl_pure (v := .bool true) tt_ok rfl rfl ?_
    refine wl_nil ?_
    refine wx_then ?_
    replace h := ct rfl h
    refine wc_cond_true rfl ?_
    refine wc_seq ?_
    refine wc_region ?_
    refine wl_pure tt_ok rfl rfl ?_
    refine wl_nil ?_
    refine wx_then ?_
    refine wc_ret ?_
    refine wx_then_ret ?_
    simp only [Option.some.injEq] at h
    obtain rfl := h
    exact wx_pf tt_ok (.inl rfl) Tryd.results5 (Res.tmp rfl Res.nil) rfl
  replace h := cf hc h
  refine wl_run rfl ?_
  refine wl_val (v := .agg #[.int .u64 v14.Frame, .int .u64 v14.Seed, .int .i32 v14.Players.1.X, .int .i32 v14.Players.1.Y, .int .i32 v14.Players.1.VX, .int .i32 v14.Players.1.VY, .int .u8 v14.Players.1.Health, .int .u8 v14.Players.1.Cool, .int .u8 v14.Players.1.Face, .int .i32 v14.Players.2.X, .int .i32 v14.Players.2.Y, .int .i32 v14.Players.2.VX, .int .i32 v14.Players.2.VY, .int .u8 v14.Players.2.Health, .int .u8 v14.Players.2.Cool, .int .u8 v14.Players.2.Face, .slice v14a0 v14n0 v14c0, .int .u16 v14.Score.1, .int .u16 v14.Score.2]) (val_load tt_ok rfl (List.Mem.head _) rfl) rfl ?_
  replace h := bsome h; obtain ⟨v29, x29, h⟩ := h
  refine wl_run rfl ?_
  refine wl_cq Tryd.call11 rfl rfl rfl (q_pf (k_state_Check (p0 := v14) v14N0 (vec_cap v14V0) x29) (fun w hI => ⟨(Rds.call (Rds.of_vec v14V0) pNil ⟨_, (Sel.sc (Sel.sc Sel.ha))⟩) w hI, (Rds.call G0S pNil rsub_nil) w hI, (Rds.call G1S pNil rsub_nil) w hI⟩)) rfl ?_
  refine wl_run rfl ?_
  refine wl_pure (v := .bool (v29 != (0 : Int))) tt_ok rfl rfl ?_
  simp only [Option.some.injEq, Prod.mk.injEq] at h
  obtain rfl := h
  have h := hg31; clear hg31
  refine wl_pure (v := .bool (v29 != (0 : Int))) tt_ok rfl rfl ?_
  refine wl_nil ?_
  refine wx_then ?_
  refine wc_cond rfl (fun hc => ?_) (fun hc => ?_)
  · replace h := ct hc h
    refine wc_seq ?_
    refine wc_region ?_
    refine wl_pure tt_ok rfl rfl ?_
    refine wl_nil ?_
    refine wx_then ?_
    refine wc_ret ?_
    refine wx_then_ret ?_
    simp only [Option.some.injEq] at h
    obtain rfl := h
    exact wx_pf tt_ok (.inl rfl) Tryd.results5 (Res.tmp rfl Res.nil) rfl
  replace h := cf hc h
  refine wc_skip ?_
  refine wx_then ?_
  refine wc_seq ?_
  refine wc_region ?_
  refine wl_pure tt_ok rfl rfl ?_
  replace h := bsome h; obtain ⟨⟨v34_0, v34_1⟩, x34, h⟩ := h; try dsimp only at h
  refine wl_cs Tryd.call18 rfl rfl rfl (s_sp (k_state_Take x34) pNil (fun w hI => ⟨(Rds.call G0S pNil rsub_nil) w hI, (Rds.call G1S pNil rsub_nil) w hI⟩)) rfl ?_
  rintro _ _ ⟨_, ⟨v34_0a0, v34_0n0, v34_0c0, v34_0B0, v34_0N0, v34_0V0, rfl, rfl⟩, rfl⟩
  refine wl_pure tt_ok rfl rfl ?_
  refine wl_pure tt_ok rfl rfl ?_
  refine wl_pure tt_ok rfl rfl ?_
  refine wl_alloc tt_ok rfl rfl (fun b11 => ?_)
  apply wl_store tt_ok; rfl; exact Upd.here; rfl; rfl; rfl; rfl; rfl; rfl
  refine wl_pure tt_ok rfl rfl ?_
  refine wl_nil ?_
  refine wx_then ?_
  refine wc_seq ?_
  refine wc_region ?_
  refine wl_pure tt_ok rfl rfl ?_
  refine wl_pure (v := .bool (v34_1 == (0 : Int))) tt_ok rfl rfl ?_
  refine wl_pure tt_ok rfl rfl ?_
  replace h := bsome h; obtain ⟨v43, h, hg43⟩ := h
  refine wl_split (t := 39) rfl (fun hc => ?_) (fun hc => ?_)
  · replace h := ct hc h
    refine wl_run rfl ?_
    refine wl_val (v := .agg #[.int .u64 v34_0.Frame, .int .u64 v34_0.Seed, .int .i32 v34_0.Players.1.X, .int .i32 v34_0.Players.1.Y, .int .i32 v34_0.Players.1.VX, .int .i32 v34_0.Players.1.VY, .int .u8 v34_0.Players.1.Health, .int .u8 v34_0.Players.1.Cool, .int .u8 v34_0.Players.1.Face, .int .i32 v34_0.Players.2.X, .int .i32 v34_0.Players.2.Y, .int .i32 v34_0.Players.2.VX, .int .i32 v34_0.Players.2.VY, .int .u8 v34_0.Players.2.Health, .int .u8 v34_0.Players.2.Cool, .int .u8 v34_0.Players.2.Face, .slice v34_0a0 v34_0n0 v34_0c0, .int .u16 v34_0.Score.1, .int .u16 v34_0.Score.2]) (val_load tt_ok rfl (List.Mem.head _) rfl) rfl ?_
    refine wl_run rfl ?_
    refine wl_val (v := .agg #[.int .u64 v14.Frame, .int .u64 v14.Seed, .int .i32 v14.Players.1.X, .int .i32 v14.Players.1.Y, .int .i32 v14.Players.1.VX, .int .i32 v14.Players.1.VY, .int .u8 v14.Players.1.Health, .int .u8 v14.Players.1.Cool, .int .u8 v14.Players.1.Face, .int .i32 v14.Players.2.X, .int .i32 v14.Players.2.Y, .int .i32 v14.Players.2.VX, .int .i32 v14.Players.2.VY, .int .u8 v14.Players.2.Health, .int .u8 v14.Players.2.Cool, .int .u8 v14.Players.2.Face, .slice v14a0 v14n0 v14c0, .int .u16 v14.Score.1, .int .u16 v14.Score.2]) (val_load tt_ok rfl (List.Mem.tail _ (mR (List.Mem.head _))) rfl) rfl ?_
    replace h := bsome h; obtain ⟨v42, x42, h⟩ := h
    refine wl_run rfl ?_
    refine wl_cq Tryd.call21 rfl rfl rfl (q_pf (k_state_Same (p0 := v34_0) (p1 := v14) v34_0N0 (vec_cap v34_0V0) v14N0 (vec_cap v14V0) x42) (fun w hI => ⟨(Rds.call (Rds.of_vec v34_0V0) pNil ⟨_, (Sel.sc Sel.ha)⟩) w hI, (Rds.call (Rds.of_vec v14V0) pNil ⟨_, (Sel.sc (Sel.sa (Sel.sc (Sel.sc Sel.ha))))⟩) w hI⟩)) rfl ?_
    simp only [Option.some.injEq, Prod.mk.injEq] at h
    obtain rfl := h
    have h := hg43; clear hg43
    refine wl_pure (v := .bool v42) tt_ok rfl rfl ?_
    refine wl_pure tt_ok rfl rfl ?_
    replace h := bsome h; obtain ⟨v52, h, hg52⟩ := h
    refine wl_split (t := 44) rfl (fun hc => ?_) (fun hc => ?_)
    · replace h := ct hc h
      refine wl_run rfl ?_
      refine wl_pure tt_ok rfl rfl ?_
      refine wl_run rfl ?_
      refine wl_pure tt_ok rfl rfl ?_
      refine wl_run rfl ?_
      refine wl_val (v := .bool (v18 == v20)) (val_seq tt_ok rfl rfl) rfl ?_
      refine wl_run rfl ?_
      refine wl_val (v := .agg #[.int .u64 v14.Frame, .int .u64 v14.Seed, .int .i32 v14.Players.1.X, .int .i32 v14.Players.1.Y, .int .i32 v14.Players.1.VX, .int .i32 v14.Players.1.VY, .int .u8 v14.Players.1.Health, .int .u8 v14.Players.1.Cool, .int .u8 v14.Players.1.Face, .int .i32 v14.Players.2.X, .int .i32 v14.Players.2.Y, .int .i32 v14.Players.2.VX, .int .i32 v14.Players.2.VY, .int .u8 v14.Players.2.Health, .int .u8 v14.Players.2.Cool, .int .u8 v14.Players.2.Face, .slice v14a0 v14n0 v14c0, .int .u16 v14.Score.1, .int .u16 v14.Score.2]) (val_load tt_ok rfl (List.Mem.tail _ (mR (List.Mem.head _))) rfl) rfl ?_
      refine wl_run rfl ?_
      refine wl_val (v := .agg #[.int .u64 v16.Frame, .int .u64 v16.Seed, .int .i32 v16.Players.1.X, .int .i32 v16.Players.1.Y, .int .i32 v16.Players.1.VX, .int .i32 v16.Players.1.VY, .int .u8 v16.Players.1.Health, .int .u8 v16.Players.1.Cool, .int .u8 v16.Players.1.Face, .int .i32 v16.Players.2.X, .int .i32 v16.Players.2.Y, .int .i32 v16.Players.2.VX, .int .i32 v16.Players.2.VY, .int .u8 v16.Players.2.Health, .int .u8 v16.Players.2.Cool, .int .u8 v16.Players.2.Face, .slice v16a0 v16n0 v16c0, .int .u16 v16.Score.1, .int .u16 v16.Score.2]) (val_load tt_ok rfl (List.Mem.tail _ (mR (List.Mem.tail _ (List.Mem.head _)))) rfl) rfl ?_
      replace h := bsome h; obtain ⟨v50, x50, h⟩ := h
      refine wl_run rfl ?_
      refine wl_cq Tryd.call21 rfl rfl rfl (q_pf (k_state_Same (p0 := v14) (p1 := v16) v14N0 (vec_cap v14V0) v16N0 (vec_cap v16V0) x50) (fun w hI => ⟨(Rds.call (Rds.of_vec v14V0) pNil ⟨_, (Sel.sc (Sel.sa (Sel.sc (Sel.sc Sel.ha))))⟩) w hI, (Rds.call (Rds.of_vec v16V0) pNil ⟨_, (Sel.sc (Sel.sa (Sel.sc (Sel.sc (Sel.sa Sel.ha)))))⟩) w hI⟩)) rfl ?_
      refine wl_run rfl ?_
      refine wl_pure (v := .bool ((v18 == v20) == v50)) tt_ok rfl rfl ?_
      simp only [Option.some.injEq, Prod.mk.injEq] at h
      obtain rfl := h
      have h := hg52; clear hg52
      refine wl_pure (v := .bool ((v18 == v20) == v50)) tt_ok rfl rfl ?_
      refine wl_pure tt_ok rfl rfl ?_
      replace h := bsome h; obtain ⟨v62, h, hg62⟩ := h
      refine wl_split (t := 53) rfl (fun hc => ?_) (fun hc => ?_)
      · replace h := ct hc h
        refine wl_run rfl ?_
        refine wl_pure tt_ok rfl rfl ?_
        refine wl_run rfl ?_
        refine wl_pure tt_ok rfl rfl ?_
        refine wl_run rfl ?_
        refine wl_pure (v := .int .i64 (IntKind.wrap .i64 p2)) tt_ok rfl rfl ?_
        refine wl_run rfl ?_
        refine wl_pure tt_ok rfl rfl ?_
        refine wl_run rfl ?_
        refine wl_pure (v := .int .i64 (v18.length : Int)) tt_ok rfl rfl ?_
        replace h := bsome h; obtain ⟨v59, x59, h⟩ := h
        refine wl_run rfl ?_
        refine wl_val (v := .int .i64 v59) (val_rem rfl rfl x59) rfl ?_
        replace h := bsome h; obtain ⟨v60, x60, h⟩ := h
        refine wl_run rfl ?_
        refine wl_val (v := .string ⟨v60.toArray⟩) (val_ss tt_ok rfl rfl (.inl ⟨rfl, rfl⟩) (.inr ⟨_, _, rfl, rfl⟩) x60) rfl ?_
        replace h := bsome h; obtain ⟨v61, x61, h⟩ := h
        refine wl_run rfl ?_
        refine wl_cq Tryd.call22 rfl rfl rfl (q_pf (k_hindcastlaw08_fails x61) (fun w hI => ⟨(Rds.call G0S pNil rsub_nil) w hI, (Rds.call G1S pNil rsub_nil) w hI⟩)) rfl ?_
        simp only [Option.some.injEq, Prod.mk.injEq] at h
        obtain rfl := h
        have h := hg62; clear hg62
        refine wl_pure (v := .bool v61) tt_ok rfl rfl ?_
        refine wl_pure tt_ok rfl rfl ?_
        replace h := bsome h; obtain ⟨v67, h, hg67⟩ := h
        refine wl_split (t := 63) rfl (fun hc => ?_) (fun hc => ?_)
        · replace h := ct hc h
          refine wl_run rfl ?_
          refine wl_pure tt_ok rfl rfl ?_
          replace h := bsome h; obtain ⟨v65, x65, h⟩ := h
          refine wl_run rfl ?_
          refine wl_val (v := .string ⟨v65.toArray⟩) (val_cat tt_ok rfl rfl x65) rfl ?_
          replace h := bsome h; obtain ⟨v66, x66, h⟩ := h
          refine wl_run rfl ?_
          refine wl_cq Tryd.call22 rfl rfl rfl (q_pf (k_hindcastlaw08_fails x66) (fun w hI => ⟨(Rds.call G0S pNil rsub_nil) w hI, (Rds.call G1S pNil rsub_nil) w hI⟩)) rfl ?_
          simp only [Option.some.injEq, Prod.mk.injEq] at h
          obtain rfl := h
          have h := hg67; clear hg67
          refine wl_pure (v := .bool v66) tt_ok rfl rfl ?_
          refine wl_pure tt_ok rfl rfl ?_
          replace h := bsome h; obtain ⟨v70, h, hg70⟩ := h
          refine wl_split (t := 68) rfl (fun hc => ?_) (fun hc => ?_)
          · replace h := ct hc h
            replace h := bsome h; obtain ⟨v69, x69, h⟩ := h
            refine wl_run rfl ?_
            refine wl_cq Tryd.call9 rfl rfl rfl (q_pf (k_hindcastlaw08_works x69) (fun w hI => ⟨(Rds.call G0S pNil rsub_nil) w hI, (Rds.call G1S pNil rsub_nil) w hI⟩)) rfl ?_
            simp only [Option.some.injEq, Prod.mk.injEq] at h
            obtain rfl := h
            have h := hg70; clear hg70
            refine wl_pure (v := .bool v69) tt_ok rfl rfl ?_
            refine wl_pure tt_ok rfl rfl ?_
            refine wl_nil ?_
            refine wx_then ?_
            refine wc_ret ?_
            simp only [Option.some.injEq] at h
            obtain rfl := h
            exact wx_pf tt_ok (.inl rfl) Tryd.results5 (Res.tmp rfl Res.nil) rfl
          replace h := cf hc h
          refine wl_skip rfl rfl ?_
          simp only [Option.some.injEq, Prod.mk.injEq] at h
          obtain rfl := h
          have h := hg70; clear hg70
          refine wl_pure (v := .bool false) tt_ok rfl rfl ?_
          refine wl_pure tt_ok rfl rfl ?_
          refine wl_nil ?_
          refine wx_then ?_
          refine wc_ret ?_
          simp only [Option.some.injEq] at h
          obtain rfl := h
          exact wx_pf tt_ok (.inl rfl) Tryd.results5 (Res.tmp rfl Res.nil) rfl
        replace h := cf hc h
        refine wl_skip rfl rfl ?_
        refine wl_skip rfl rfl ?_
        refine wl_skip rfl rfl ?_
        simp only [Option.some.injEq, Prod.mk.injEq] at h
        obtain rfl := h
        have h := hg67; clear hg67
        refine wl_pure (v := .bool false) tt_ok rfl rfl ?_
        refine wl_pure tt_ok rfl rfl ?_
        replace h := bsome h; obtain ⟨v70, h, hg70⟩ := h
        replace h := cf rfl h
        refine wl_skip rfl rfl ?_
        simp only [Option.some.injEq, Prod.mk.injEq] at h
        obtain rfl := h
        have h := hg70; clear hg70
        refine wl_pure (v := .bool false) tt_ok rfl rfl ?_
        refine wl_pure tt_ok rfl rfl ?_
        refine wl_nil ?_
        refine wx_then ?_
        refine wc_ret ?_
        simp only [Option.some.injEq] at h
        obtain rfl := h
        exact wx_pf tt_ok (.inl rfl) Tryd.results5 (Res.tmp rfl Res.nil) rfl
      replace h := cf hc h
      refine wl_skip rfl rfl ?_
      refine wl_skip rfl rfl ?_
      refine wl_skip rfl rfl ?_
      refine wl_skip rfl rfl ?_
      refine wl_skip rfl rfl ?_
      refine wl_skip rfl rfl ?_
      refine wl_skip rfl rfl ?_
      refine wl_skip rfl rfl ?_
      simp only [Option.some.injEq, Prod.mk.injEq] at h
      obtain rfl := h
      have h := hg62; clear hg62
      refine wl_pure (v := .bool false) tt_ok rfl rfl ?_
      refine wl_pure tt_ok rfl rfl ?_
      replace h := bsome h; obtain ⟨v67, h, hg67⟩ := h
      replace h := cf rfl h
      refine wl_skip rfl rfl ?_
      refine wl_skip rfl rfl ?_
      refine wl_skip rfl rfl ?_
      simp only [Option.some.injEq, Prod.mk.injEq] at h
      obtain rfl := h
      have h := hg67; clear hg67
      refine wl_pure (v := .bool false) tt_ok rfl rfl ?_
      refine wl_pure tt_ok rfl rfl ?_
      replace h := bsome h; obtain ⟨v70, h, hg70⟩ := h
      replace h := cf rfl h
      refine wl_skip rfl rfl ?_
      simp only [Option.some.injEq, Prod.mk.injEq] at h
      obtain rfl := h
      have h := hg70; clear hg70
      refine wl_pure (v := .bool false) tt_ok rfl rfl ?_
      refine wl_pure tt_ok rfl rfl ?_
      refine wl_nil ?_
      refine wx_then ?_
      refine wc_ret ?_
      simp only [Option.some.injEq] at h
      obtain rfl := h
      exact wx_pf tt_ok (.inl rfl) Tryd.results5 (Res.tmp rfl Res.nil) rfl
    replace h := cf hc h
    refine wl_skip rfl rfl ?_
    refine wl_skip rfl rfl ?_
    refine wl_skip rfl rfl ?_
    refine wl_skip rfl rfl ?_
    refine wl_skip rfl rfl ?_
    refine wl_skip rfl rfl ?_
    refine wl_skip rfl rfl ?_
    simp only [Option.some.injEq, Prod.mk.injEq] at h
    obtain rfl := h
    have h := hg52; clear hg52
    refine wl_pure (v := .bool false) tt_ok rfl rfl ?_
    refine wl_pure tt_ok rfl rfl ?_
    replace h := bsome h; obtain ⟨v62, h, hg62⟩ := h
    replace h := cf rfl h
    refine wl_skip rfl rfl ?_
    refine wl_skip rfl rfl ?_
    refine wl_skip rfl rfl ?_
    refine wl_skip rfl rfl ?_
    refine wl_skip rfl rfl ?_
    refine wl_skip rfl rfl ?_
    refine wl_skip rfl rfl ?_
    refine wl_skip rfl rfl ?_
    simp only [Option.some.injEq, Prod.mk.injEq] at h
    obtain rfl := h
    have h := hg62; clear hg62
    refine wl_pure (v := .bool false) tt_ok rfl rfl ?_
    refine wl_pure tt_ok rfl rfl ?_
    replace h := bsome h; obtain ⟨v67, h, hg67⟩ := h
    replace h := cf rfl h
    refine wl_skip rfl rfl ?_
    refine wl_skip rfl rfl ?_
    refine wl_skip rfl rfl ?_
    simp only [Option.some.injEq, Prod.mk.injEq] at h
    obtain rfl := h
    have h := hg67; clear hg67
    refine wl_pure (v := .bool false) tt_ok rfl rfl ?_
    refine wl_pure tt_ok rfl rfl ?_
    replace h := bsome h; obtain ⟨v70, h, hg70⟩ := h
    replace h := cf rfl h
    refine wl_skip rfl rfl ?_
    simp only [Option.some.injEq, Prod.mk.injEq] at h
    obtain rfl := h
    have h := hg70; clear hg70
    refine wl_pure (v := .bool false) tt_ok rfl rfl ?_
    refine wl_pure tt_ok rfl rfl ?_
    refine wl_nil ?_
    refine wx_then ?_
    refine wc_ret ?_
    simp only [Option.some.injEq] at h
    obtain rfl := h
    exact wx_pf tt_ok (.inl rfl) Tryd.results5 (Res.tmp rfl Res.nil) rfl
  replace h := cf hc h
  refine wl_skip rfl rfl ?_
  refine wl_skip rfl rfl ?_
  refine wl_skip rfl rfl ?_
  simp only [Option.some.injEq, Prod.mk.injEq] at h
  obtain rfl := h
  have h := hg43; clear hg43
  refine wl_pure (v := .bool false) tt_ok rfl rfl ?_
  refine wl_pure tt_ok rfl rfl ?_
  replace h := bsome h; obtain ⟨v52, h, hg52⟩ := h
  replace h := cf rfl h
  refine wl_skip rfl rfl ?_
  refine wl_skip rfl rfl ?_
  refine wl_skip rfl rfl ?_
  refine wl_skip rfl rfl ?_
  refine wl_skip rfl rfl ?_
  refine wl_skip rfl rfl ?_
  refine wl_skip rfl rfl ?_
  simp only [Option.some.injEq, Prod.mk.injEq] at h
  obtain rfl := h
  have h := hg52; clear hg52
  refine wl_pure (v := .bool false) tt_ok rfl rfl ?_
  refine wl_pure tt_ok rfl rfl ?_
  replace h := bsome h; obtain ⟨v62, h, hg62⟩ := h
  replace h := cf rfl h
  refine wl_skip rfl rfl ?_
  refine wl_skip rfl rfl ?_
  refine wl_skip rfl rfl ?_
  refine wl_skip rfl rfl ?_
  refine wl_skip rfl rfl ?_
  refine wl_skip rfl rfl ?_
  refine wl_skip rfl rfl ?_
  refine wl_skip rfl rfl ?_
  simp only [Option.some.injEq, Prod.mk.injEq] at h
  obtain rfl := h
  have h := hg62; clear hg62
  refine wl_pure (v := .bool false) tt_ok rfl rfl ?_
  refine wl_pure tt_ok rfl rfl ?_
  replace h := bsome h; obtain ⟨v67, h, hg67⟩ := h
  replace h := cf rfl h
  refine wl_skip rfl rfl ?_
  refine wl_skip rfl rfl ?_
  refine wl_skip rfl rfl ?_
  simp only [Option.some.injEq, Prod.mk.injEq] at h
  obtain rfl := h
  have h := hg67; clear hg67
  refine wl_pure (v := .bool false) tt_ok rfl rfl ?_
  refine wl_pure tt_ok rfl rfl ?_
  replace h := bsome h; obtain ⟨v70, h, hg70⟩ := h
  replace h := cf rfl h
  refine wl_skip rfl rfl ?_
  simp only [Option.some.injEq, Prod.mk.injEq] at h
  obtain rfl := h
  have h := hg70; clear hg70
  refine wl_pure (v := .bool false) tt_ok rfl rfl ?_
  refine wl_pure tt_ok rfl rfl ?_
  refine wl_nil ?_
  refine wx_then ?_
  refine wc_ret ?_
  simp only [Option.some.injEq] at h
  obtain rfl := h
  exact wx_pf tt_ok (.inl rfl) Tryd.results5 (Res.tmp rfl Res.nil) rfl

end Go.Proofs.YtekplmhmppdpcaaDoor
