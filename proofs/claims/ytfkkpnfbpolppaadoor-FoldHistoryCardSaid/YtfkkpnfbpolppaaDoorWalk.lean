/-
  Each function computes what its model says. Printed by a program of this claim's own.
-/
import Derived.Test.YtfkkpnfbpolppaaDoorTab
import Derived.Test.YtfkkpnfbpolppaaDoorMod
import Derived.Test.YtfkkpnfbpolppaaDoorWalk2
namespace Go.Proofs.YtfkkpnfbpolppaaDoor
open Go.Proofs.YtfkkpnfbpolppaaDoor.Eng
set_option linter.unusedVariables false
set_option linter.unusedSimpArgs false
set_option maxHeartbeats 4000000
set_option maxRecDepth 20000

theorem k_fold_History_Count {F : Nat} {p0 : T_fold_History} {p0b p0t : Nat} {r0 : Int} (h : m_fold_History_Count F p0 = some r0) :
    Rd2 Tryd.prog 19 [.pointer (some ⟨p0b, 0, none⟩)] (⟨p0b, ([.int .u64 p0.from_, .int .u64 p0.count, .int .u64 p0.most] ++ flat (e2 .u8) p0.ring.1), p0t, (0, 0)⟩ :: []) (fun w => True) (.int .u64 r0) := by
  unfold m_fold_History_Count at h
  refine sp_of_wc Tryd.func19 rfl Tryd.ntmps19 rfl rfl (fun w0 hR => ?_)
  refine wc_seq ?_
  refine wc_region ?_
  refine wl_pure tt_ok rfl rfl ?_
  refine wl_nil ?_
  refine wx_then ?_
  refine wc_seq ?_
  refine wc_seq ?_
  refine wc_region ?_
  refine wl_pure tt_ok rfl rfl ?_
  replace h := bsome h; obtain ⟨v4, x4, h⟩ := h
  refine wl_cq Tryd.call35 rfl rfl rfl (q_rd (k_fold_History_is x4) (pCons Sel.hc pNil) (fun _ _ => trivial)) rfl ?_
  refine wl_pure (v := .bool (!v4)) tt_ok rfl rfl ?_
  refine wl_nil ?_
  refine wx_then ?_
  refine wc_cond rfl (fun hc => ?_) (fun hc => ?_)
  · replace h := ct hc h
    refine wc_seq ?_
    refine wc_region ?_
    refine wl_pure tt_ok rfl rfl ?_
    refine wl_nil ?_
    refine wx_then ?_
    refine wc_ret ?_
    refine wx_then_ret ?_
    simp only [Option.some.injEq] at h
    obtain rfl := h
    exact wx_rd tt_ok (.inl rfl) Tryd.results19 (Res.tmp rfl Res.nil) (pSub (pCons Sel.hc pNil)) rfl
  replace h := cf hc h
  refine wc_skip ?_
  refine wx_then ?_
  refine wc_seq ?_
  refine wc_region ?_
  refine wl_pure tt_ok rfl rfl ?_
  refine wl_pure tt_ok rfl rfl ?_
  refine wl_pure (v := .pointer (some ⟨p0b, 1, none⟩)) tt_ok rfl rfl ?_
  refine wl_val (v := .int .u64 p0.count) (val_load tt_ok rfl (List.Mem.head _) rfl) rfl ?_
  refine wl_pure tt_ok rfl rfl ?_
  refine wl_nil ?_
  refine wx_then ?_
  refine wc_ret ?_
  simp only [Option.some.injEq] at h
  obtain rfl := h
  exact wx_rd tt_ok (.inl rfl) Tryd.results19 (Res.tmp rfl Res.nil) (pSub (pCons Sel.hc pNil)) rfl

theorem k_hindcastlaw11_FoldHistory {F : Nat} {p0 : Int} {p1 : Int} {p2 : (List T_hindcastlaw11_Act)} {p2a0 : Option Addr} {p2n0 p2c0 : Nat} {r0 : Bool} (p2N0 : p2n0 = p2.length) (p2H0 : p2n0 ≤ p2c0) (h : m_hindcastlaw11_FoldHistory F p0 p1 p2 = some r0) :
    Pf Tryd.prog 6 [.int .u64 p0, .int .i64 p1, .slice p2a0 p2n0 p2c0] (fun w => Rds w [] [] p2a0 (flat c_T_hindcastlaw11_Act p2) ∧ Rds w [] [] (some ⟨0, 0, none⟩) (flat (fun _ : Unit => gl_state_playerBounds) [()]) ∧ Rds w [] [] (some ⟨1, 0, none⟩) (flat (fun _ : Unit => gl_state_shotBounds) [()])) (.bool r0) := by
  unfold m_hindcastlaw11_FoldHistory at h
  refine pf_of_wc Tryd.func6 rfl Tryd.ntmps6 rfl rfl (fun w0 hR => ?_)
  obtain ⟨p2S0, G0S, G1S⟩ := hR
  refine wc_seq ?_
  refine wc_region ?_
  refine wl_pure tt_ok rfl rfl ?_
  refine wl_nil ?_
  refine wx_then ?_
  refine wc_seq ?_
  refine wc_region ?_
  refine wl_pure tt_ok rfl rfl ?_
  refine wl_pure tt_ok rfl rfl ?_
  replace h := bsome h; obtain ⟨v12, x12, h⟩ := h
  rcases v12 with _ | v12s
  · replace h := poN h
    refine wl_cs Tryd.call15 rfl rfl rfl (s_sp (k_fold_New_none x12) pNil (fun _ _ => trivial)) rfl ?_
    rintro _ _ ⟨_, ⟨rfl, rfl⟩, rfl⟩
    refine wl_pure tt_ok rfl rfl ?_
    refine wl_nil ?_
    refine wx_then ?_
    refine wc_seq ?_
    refine wc_seq ?_
    refine wc_region ?_
    refine wl_pure tt_ok rfl rfl ?_
    replace h := bsome h; obtain ⟨v14, x14, h⟩ := h
    refine wl_cq Tryd.call21 rfl rfl rfl (q_pf (k_hindcastref11_May x14) (fun _ _ => trivial)) rfl ?_
    refine wl_pure (v := .bool (!v14)) tt_ok rfl rfl ?_
    refine wl_nil ?_
    refine wx_then ?_
    refine wc_cond rfl (fun hc => ?_) (fun hc => ?_)
    · replace h := ct hc h
      refine wc_seq ?_
      refine wc_region ?_
      refine wl_pure tt_ok rfl rfl ?_
      refine wl_pure (v := .bool true) tt_ok rfl rfl ?_
      refine wl_pure tt_ok rfl rfl ?_
      replace h := bsome h; obtain ⟨v19, x19, h⟩ := h
      refine wl_run rfl ?_
      refine wl_cq Tryd.call8 rfl rfl rfl (q_pf (k_hindcastlaw11_awake x19) (fun w hI => ⟨(Rds.call G0S pNil rsub_nil) w hI, (Rds.call G1S pNil rsub_nil) w hI⟩)) rfl ?_
      refine wl_pure (v := .bool v19) tt_ok rfl rfl ?_
      refine wl_pure tt_ok rfl rfl ?_
      refine wl_nil ?_
      refine wx_then ?_
      refine wc_ret ?_
      refine wx_then_ret ?_
      simp only [Option.some.injEq] at h
      obtain rfl := h
      exact wx_pf tt_ok (.inl rfl) Tryd.results6 (Res.tmp rfl Res.nil) rfl
    replace h := cf hc h
    refine wc_skip ?_
    refine wx_then ?_
    refine wc_seq ?_
    refine wc_seq ?_
    refine wc_region ?_
    refine wl_pure tt_ok rfl rfl ?_
    refine wl_pure (v := .bool true) tt_ok rfl rfl ?_
    refine wl_nil ?_
    refine wx_then ?_
    refine wc_cond_true rfl ?_
    refine wc_seq ?_
    refine wc_region ?_
    refine wl_pure tt_ok rfl rfl ?_
    refine wl_nil ?_
    refine wx_then ?_
    refine wc_ret ?_
    refine wx_then_ret ?_
    simp only [Option.some.injEq] at h
    obtain rfl := h
    exact wx_pf tt_ok (.inl rfl) Tryd.results6 (Res.tmp rfl Res.nil) rfl
  replace h := poS h
  refine wl_cs Tryd.call15 rfl rfl rfl (s_sp (k_fold_New x12) pNil (fun _ _ => trivial)) rfl ?_
  rintro _ _ ⟨_, ⟨b12_0, rfl, rfl⟩, rfl⟩
  refine wl_pure tt_ok rfl rfl ?_
  refine wl_nil ?_
  refine wx_then ?_
  refine wc_seq ?_
  refine wc_seq ?_
  refine wc_region ?_
  refine wl_pure tt_ok rfl rfl ?_
  replace h := bsome h; obtain ⟨v14, x14, h⟩ := h
  refine wl_cq Tryd.call21 rfl rfl rfl (q_pf (k_hindcastref11_May x14) (fun _ _ => trivial)) rfl ?_
  refine wl_pure (v := .bool (!v14)) tt_ok rfl rfl ?_
  refine wl_nil ?_
  refine wx_then ?_
  refine wc_cond rfl (fun hc => ?_) (fun hc => ?_)
  · replace h := ct hc h
    refine wc_seq ?_
    refine wc_region ?_
    refine wl_pure tt_ok rfl rfl ?_
    refine wl_pure (v := .bool false) tt_ok rfl rfl ?_
    refine wl_pure tt_ok rfl rfl ?_
    refine wl_skip rfl rfl ?_
    refine wl_pure (v := .bool false) tt_ok rfl rfl ?_
    refine wl_pure tt_ok rfl rfl ?_
    refine wl_nil ?_
    refine wx_then ?_
    refine wc_ret ?_
    refine wx_then_ret ?_
    simp only [Option.some.injEq] at h
    obtain rfl := h
    exact wx_pf tt_ok (.inl rfl) Tryd.results6 (Res.tmp rfl Res.nil) rfl
  replace h := cf hc h
  refine wc_skip ?_
  refine wx_then ?_
  refine wc_seq ?_
  refine wc_seq ?_
  refine wc_region ?_
  refine wl_pure tt_ok rfl rfl ?_
  refine wl_pure (v := .bool false) tt_ok rfl rfl ?_
  refine wl_nil ?_
  refine wx_then ?_
  refine wc_cond_false rfl ?_
  refine wc_skip ?_
  refine wx_then ?_
  refine wc_seq ?_
  refine wc_region ?_
  refine wl_pure tt_ok rfl rfl ?_
  refine wl_pure tt_ok rfl rfl ?_
  refine wl_pure (v := .agg #[.int .u64 p0, .int .i64 p1, .slice none 0 0]) tt_ok rfl rfl ?_
  refine wl_box rfl rfl rfl (fun b26 => ?_)
  refine wl_pure tt_ok rfl rfl ?_
  refine wl_nil ?_
  refine wx_then ?_
  refine wc_seq ?_
  refine wc_seq ?_
  refine wc_region ?_
  refine wl_pure tt_ok rfl rfl ?_
  refine wl_nil ?_
  refine wx_then ?_
  refine wc_block ?_
  replace h := bsome h; obtain ⟨o27, h, hl27⟩ := h
  refine wc_loop (fun m E L => ∃ (j27_9 : Int) (j27_n12_0 : T_fold_History) (j27_n26_f0 : Int) (j27_n26_f1 : Int) (j27_n26_f2 : (List (Int × Int))) (j27_n26_f2a0 : Option Addr) (j27_n26_f2n0 : Nat) (j27_n26_f2c0 : Nat) (j27_n26_f2B0 : List Blk), m_hindcastlaw11_FoldHistory_L26 F p0 p2 m j27_9 j27_n12_0 j27_n26_f0 j27_n26_f1 j27_n26_f2 = some o27 ∧ j27_n26_f2n0 = j27_n26_f2.length ∧ Own 39 2 j27_n26_f2a0 j27_n26_f2n0 j27_n26_f2c0 (flat (e2 .u8) j27_n26_f2) j27_n26_f2B0 ∧ E = [(0, .int .u64 p0), (2, .slice p2a0 p2n0 p2c0), (6, .bool false), (7, .pointer (some ⟨b12_0, 0, none⟩)), (8, .pointer (some ⟨b26, 0, none⟩)), (9, .int .i64 j27_9)] ∧ L = (⟨b12_0, ([.int .u64 j27_n12_0.from_, .int .u64 j27_n12_0.count, .int .u64 j27_n12_0.most] ++ flat (e2 .u8) j27_n12_0.ring.1), 63, (0, 0)⟩ :: (⟨b26, [.int .u64 j27_n26_f0, .int .i64 j27_n26_f1, .slice j27_n26_f2a0 j27_n26_f2n0 j27_n26_f2c0], 55, (0, 0)⟩ :: (j27_n26_f2B0 ++ [])))) F ⟨(0 : Int), v12s, p0, p1, ([] : List (Int × Int)), none, 0, 0, [], h, rfl, Own.zero, rfl, rfl⟩ (agree_cons rfl (agree_cons rfl (agree_cons rfl (agree_cons rfl (agree_cons rfl (agree_cons rfl agree_nil)))))) (pSub (pCons (Sel.sc Sel.hc) (pCons Sel.hc (pNo pNil)))) ?_
  clear h
  rintro m27 _ _ ⟨j27_9, j27_n12_0, j27_n26_f0, j27_n26_f1, j27_n26_f2, j27_n26_f2a0, j27_n26_f2n0, j27_n26_f2c0, j27_n26_f2B0, h, j27_n26_f2N0, j27_n26_f2V0, rfl, rfl⟩
  rcases m27 with _ | m27
  · rw [m_hindcastlaw11_FoldHistory_L26.eq_1] at h; cases h
  rw [m_hindcastlaw11_FoldHistory_L26.eq_2] at h
  refine wc_seq ?_
  refine wc_seq ?_
  refine wc_region ?_
  refine wl_pure tt_ok rfl rfl ?_
  refine wl_pure tt_ok rfl rfl ?_
  refine wl_val (v := .int .i64 (p2.length : Int)) (val_len tt_ok rfl rfl p2N0) rfl ?_
  refine wl_pure (v := .bool (decide (j27_9 < (p2.length : Int)))) tt_ok rfl rfl ?_
  refine wl_pure tt_ok rfl rfl ?_
  replace h := bsome h; obtain ⟨v34, h, hg34⟩ := h
  refine wl_split (t := 31) rfl (fun hc => ?_) (fun hc => ?_)
  · replace h := ct hc h
    refine wl_run rfl ?_
    refine wl_pure tt_ok rfl rfl ?_
    refine wl_run rfl ?_
    refine wl_pure (v := .bool (decide (j27_9 < (600 : Int)))) tt_ok rfl rfl ?_
    simp only [Option.some.injEq, Prod.mk.injEq] at h
    obtain rfl := h
    have h := hg34; clear hg34
    refine wl_pure (v := .bool (decide (j27_9 < (600 : Int)))) tt_ok rfl rfl ?_
    refine wl_nil ?_
    refine wx_then ?_
    refine wc_cond rfl (fun hc => ?_) (fun hc => ?_)
    · replace h := ct hc h
      refine wc_skip ?_
      refine wx_then ?_
      refine wc_seq ?_
      refine wc_block ?_
      refine wc_seq ?_
      refine wc_k2 (Ls := []) [13, 17, 26, 28] [] [0, 0, 0, 0, 12, 28, 0, 0, 0, 384, 896, 1920, 4032, 8191, 16383, 32767, 65535, 131071, 65535, 327679, 851967, 1900543, 4194303, 8388607, 16777215, 33554431, 67108863, 33554431, 268435455, 536870911, 1073741823] [0, 1, 2, 3, 4, 5, 6, 7, 8, 9, 10, 11, 12, 13, 14, 15, 16, 18, 19, 20, 21, 17, 22, 23, 24, 25, 27, 26, 28, 29, 30] (by kernel_rfl) (by kernel_rfl) (by kernel_rfl) ?_
      refine k_val rfl rfl rfl (pSub pNil) (stepV_ok tt_ok rfl) rfl ?_
      refine k_val rfl rfl rfl (pSub pNil) (stepV_ok tt_ok rfl) rfl ?_
      refine k_val rfl rfl rfl (pSub pNil) (stepV_ok tt_ok rfl) rfl ?_
      refine k_val rfl rfl rfl (pSub pNil) (stepV_ok tt_ok rfl) rfl ?_
      replace h := bsome h; obtain ⟨v41, x41, h⟩ := h
      refine k_val (v := .pointer (some ((adOf p2a0).add (j27_9.toNat * 5 + 0)))) rfl rfl rfl (pSub pNil) (val_ix (enc := c_T_hindcastlaw11_Act) tt_ok rfl rfl rfl rfl p2N0 p2S0 c_T_hindcastlaw11_Act_len rfl x41) rfl ?_
      refine k_val (v := .agg #[.int .u8 v41.What, .int .u8 v41.P.1, .int .u8 v41.P.2, .int .u64 v41.F, .int .i64 v41.N]) rfl rfl rfl (pSub pNil) (val_le (enc := c_T_hindcastlaw11_Act) (xs := p2) tt_ok rfl p2S0 rsub_nil c_T_hindcastlaw11_Act_len x41 rfl) rfl ?_
      refine k_val rfl rfl rfl (pSub pNil) (stepV_ok tt_ok rfl) rfl ?_
      refine k_val rfl rfl rfl (pSub pNil) (stepV_ok tt_ok rfl) rfl ?_
      refine k_val rfl rfl rfl (pSub pNil) (stepV_ok tt_ok rfl) rfl ?_
      replace h := bsome h; obtain ⟨v46, x46, h⟩ := h
      refine k_val (v := .pointer (some ((adOf p2a0).add (j27_9.toNat * 5 + 0)))) rfl rfl rfl (pSub pNil) (val_ix (enc := c_T_hindcastlaw11_Act) tt_ok rfl rfl rfl rfl p2N0 p2S0 c_T_hindcastlaw11_Act_len rfl x46) rfl ?_
      refine k_val (v := .pointer (some ((adOf p2a0).add (j27_9.toNat * 5 + 3)))) rfl rfl rfl (pSub pNil) (val_fa tt_ok rfl rfl rfl rfl rfl) rfl ?_
      refine k_val (v := .int .u64 v46.F) rfl rfl rfl (pSub pNil) (val_le (enc := c_T_hindcastlaw11_Act) (xs := p2) tt_ok rfl p2S0 rsub_nil c_T_hindcastlaw11_Act_len x46 rfl) rfl ?_
      refine k_val (v := .int .u64 (IntKind.wrap .u64 (p0 + v46.F))) rfl rfl rfl (pSub pNil) (stepV_ok tt_ok rfl) rfl ?_
      replace h := bsome h; obtain ⟨⟨o50_0, o50_1, v50⟩, x50, h⟩ := h; try dsimp only at h
      refine k_cs rfl rfl rfl Tryd.call22 rfl rfl rfl (s_sp (k_hindcastlaw11_one (p1 := (T_hindcastref11_History.mk j27_n26_f0 j27_n26_f1 j27_n26_f2)) j27_n26_f2N0 j27_n26_f2V0 x50) (pCons Sel.hc (pCons Sel.hc (pApp Sel.ha pNil))) (fun _ _ => trivial)) rfl (.inr (by rintro _ _ ⟨_, ⟨_, _, _, _, _, _, rfl, rfl⟩, rfl⟩; exact ⟨_, pNil⟩)) ?_
      rintro _ _ ⟨_, ⟨o50_1a0, o50_1n0, o50_1c0, o50_1B0, o50_1N0, o50_1V0, rfl, rfl⟩, rfl⟩
      refine k_val (v := .bool (!v50)) rfl rfl rfl (pSub pNil) (stepV_ok tt_ok rfl) rfl ?_
      refine k_val rfl rfl rfl (pSub pNil) (stepV_ok tt_ok rfl) rfl ?_
      replace h := bsome h; obtain ⟨v60, h, hg60⟩ := h
      refine k_split (t := 52) rfl (fun hc => ?_) (fun hc => ?_)
      · replace h := ct hc h
        refine k_skip rfl rfl (pSub pNil) rfl ?_
        refine k_skip rfl rfl (pSub pNil) rfl ?_
        refine k_skip rfl rfl (pSub pNil) rfl ?_
        refine k_skip rfl rfl (pSub pNil) rfl ?_
        refine k_skip rfl rfl (pSub pNil) rfl ?_
        refine k_skip rfl rfl (pSub pNil) rfl ?_
        refine k_skip rfl rfl (pSub pNil) rfl ?_
        simp only [Option.some.injEq, Prod.mk.injEq] at h
        obtain rfl := h
        have h := hg60; clear hg60
        refine k_val (v := .bool true) rfl rfl rfl (pSub pNil) (stepV_ok tt_ok rfl) rfl ?_
        refine k_val rfl rfl rfl (pSub pNil) (stepV_ok tt_ok rfl) rfl ?_
        replace h := bsome h; obtain ⟨v67, h, hg67⟩ := h
        replace h := ct rfl h
        refine k_skip rfl rfl (pSub pNil) rfl ?_
        refine k_skip rfl rfl (pSub pNil) rfl ?_
        refine k_skip rfl rfl (pSub pNil) rfl ?_
        refine k_skip rfl rfl (pSub pNil) rfl ?_
        refine k_skip rfl rfl (pSub pNil) rfl ?_
        simp only [Option.some.injEq, Prod.mk.injEq] at h
        obtain rfl := h
        have h := hg67; clear hg67
        refine k_val (v := .bool true) rfl rfl rfl (pSub pNil) (stepV_ok tt_ok rfl) rfl ?_
        refine k_end (by kernel_rfl) ?_
        refine wx_then ?_
        replace h := ct rfl h
        refine wc_cond_true rfl ?_
        refine wc_seq ?_
        refine wc_region ?_
        refine wl_pure tt_ok rfl rfl ?_
        refine wl_nil ?_
        refine wx_then ?_
        refine wc_ret ?_
        refine wx_block_ret ?_
        refine wx_then_ret ?_
        obtain rfl := Option.some.inj h
        have h := hl27; clear hl27; try dsimp only [orE_l, orE_r] at h
        refine wx_then_ret ?_
        refine wx_block_ret ?_
        refine wx_then_ret ?_
        simp only [Option.some.injEq] at h
        obtain rfl := h
        exact wx_pf tt_ok (.inl rfl) Tryd.results6 (Res.tmp rfl Res.nil) rfl
      replace h := cf hc h
      refine k_val rfl rfl rfl (pSub pNil) (stepV_ok tt_ok rfl) rfl ?_
      refine k_val rfl rfl rfl (pSub pNil) (stepV_ok tt_ok rfl) rfl ?_
      refine k_val rfl rfl rfl (pSub pNil) (stepV_ok tt_ok rfl) rfl ?_
      refine k_val (v := .pointer (some ⟨b26, 0, none⟩)) rfl rfl rfl (pSub pNil) (stepV_ok tt_ok rfl) rfl ?_
      refine k_ls (Ls' := (⟨b26, [.int .u64 o50_1.From, .int .i64 o50_1.Most, .slice o50_1a0 o50_1n0 o50_1c0], 55, (0, 0)⟩ :: [])) (pSub pNil) ?_
      refine k_val (v := .int .u64 o50_1.From) rfl rfl rfl (pSub (pCons (Sel.sc Sel.hc) pNil)) (val_load tt_ok rfl (List.Mem.head _) rfl) rfl ?_
      replace h := bsome h; obtain ⟨v54, x54, h⟩ := h
      refine k_cq rfl rfl rfl Tryd.call16 rfl rfl rfl (q_rd (k_fold_History_From x54) (pCons Sel.hc pNil) (fun _ _ => trivial)) rfl (pSub (pCons (Sel.sc Sel.hc) pNil)) ?_
      refine k_val (v := .bool (v54 != o50_1.From)) rfl rfl rfl (pSub (pCons (Sel.sc Sel.hc) pNil)) (stepV_ok tt_ok rfl) rfl ?_
      simp only [Option.some.injEq, Prod.mk.injEq] at h
      obtain rfl := h
      have h := hg60; clear hg60
      refine k_val (v := .bool (v54 != o50_1.From)) rfl rfl rfl (pSub (pCons (Sel.sc Sel.hc) pNil)) (stepV_ok tt_ok rfl) rfl ?_
      refine k_val rfl rfl rfl (pSub (pCons (Sel.sc Sel.hc) pNil)) (stepV_ok tt_ok rfl) rfl ?_
      replace h := bsome h; obtain ⟨v67, h, hg67⟩ := h
      refine k_split (t := 61) rfl (fun hc => ?_) (fun hc => ?_)
      · replace h := ct hc h
        refine k_skip rfl rfl (pSub (pCons (Sel.sc Sel.hc) pNil)) rfl ?_
        refine k_skip rfl rfl (pSub (pCons (Sel.sc Sel.hc) pNil)) rfl ?_
        refine k_skip rfl rfl (pSub (pCons (Sel.sc Sel.hc) pNil)) rfl ?_
        refine k_skip rfl rfl (pSub (pCons (Sel.sc Sel.hc) pNil)) rfl ?_
        refine k_skip rfl rfl (pSub (pCons (Sel.sc Sel.hc) pNil)) rfl ?_
        simp only [Option.some.injEq, Prod.mk.injEq] at h
        obtain rfl := h
        have h := hg67; clear hg67
        refine k_val (v := .bool true) rfl rfl rfl (pSub (pCons (Sel.sc Sel.hc) pNil)) (stepV_ok tt_ok rfl) rfl ?_
        refine k_end (by kernel_rfl) ?_
        refine wx_then ?_
        replace h := ct rfl h
        refine wc_cond_true rfl ?_
        refine wc_seq ?_
        refine wc_region ?_
        refine wl_pure tt_ok rfl rfl ?_
        refine wl_nil ?_
        refine wx_then ?_
        refine wc_ret ?_
        refine wx_block_ret ?_
        refine wx_then_ret ?_
        obtain rfl := Option.some.inj h
        have h := hl27; clear hl27; try dsimp only [orE_l, orE_r] at h
        refine wx_then_ret ?_
        refine wx_block_ret ?_
        refine wx_then_ret ?_
        simp only [Option.some.injEq] at h
        obtain rfl := h
        exact wx_pf tt_ok (.inl rfl) Tryd.results6 (Res.tmp rfl Res.nil) rfl
      replace h := cf hc h
      refine k_val rfl rfl rfl (pSub (pCons (Sel.sc Sel.hc) pNil)) (stepV_ok tt_ok rfl) rfl ?_
      refine k_val rfl rfl rfl (pSub (pCons (Sel.sc Sel.hc) pNil)) (stepV_ok tt_ok rfl) rfl ?_
      replace h := bsome h; obtain ⟨v63, x63, h⟩ := h
      refine k_cq rfl rfl rfl Tryd.call19 rfl rfl rfl (q_rd (k_fold_History_Count x63) (pCons Sel.hc pNil) (fun _ _ => trivial)) rfl (pSub (pCons (Sel.sc Sel.hc) pNil)) ?_
      replace h := bsome h; obtain ⟨v65, x65, h⟩ := h
      refine k_cq rfl rfl rfl Tryd.call23 rfl rfl rfl (q_rd (k_hindcastref11_History_Count (p0 := o50_1) o50_1N0 o50_1V0 x65) (pCons (Sel.sc Sel.hc) (pApp (Sel.sc Sel.ha) pNil)) (fun _ _ => trivial)) rfl (pSub (pCons (Sel.sc Sel.hc) pNil)) ?_
      refine k_val (v := .bool (v63 != v65)) rfl rfl rfl (pSub (pCons (Sel.sc Sel.hc) pNil)) (stepV_ok tt_ok rfl) rfl ?_
      simp only [Option.some.injEq, Prod.mk.injEq] at h
      obtain rfl := h
      have h := hg67; clear hg67
      refine k_val (v := .bool (v63 != v65)) rfl rfl rfl (pSub (pCons (Sel.sc Sel.hc) pNil)) (stepV_ok tt_ok rfl) rfl ?_
      refine k_end (by kernel_rfl) ?_
      refine wx_then ?_
      refine wc_cond rfl (fun hc => ?_) (fun hc => ?_)
      · replace h := ct hc h
        refine wc_seq ?_
        refine wc_region ?_
        refine wl_pure tt_ok rfl rfl ?_
        refine wl_nil ?_
        refine wx_then ?_
        refine wc_ret ?_
        refine wx_block_ret ?_
        refine wx_then_ret ?_
        obtain rfl := Option.some.inj h
        have h := hl27; clear hl27; try dsimp only [orE_l, orE_r] at h
        refine wx_then_ret ?_
        refine wx_block_ret ?_
        refine wx_then_ret ?_
        simp only [Option.some.injEq] at h
        obtain rfl := h
        exact wx_pf tt_ok (.inl rfl) Tryd.results6 (Res.tmp rfl Res.nil) rfl
      replace h := cf hc h
      refine wc_skip ?_
      refine wx_block ?_
      refine wx_then ?_
      refine wc_region ?_
      refine wl_pure tt_ok rfl rfl ?_
      refine wl_pure (v := .int .i64 (IntKind.wrap .i64 (j27_9 + (1 : Int)))) tt_ok rfl rfl ?_
      refine wl_pure tt_ok rfl rfl ?_
      refine wl_nil ?_
      exact wx_round m27 (Nat.lt_succ_self m27) ⟨(IntKind.wrap .i64 (j27_9 + (1 : Int))), o50_0, o50_1.From, o50_1.Most, o50_1.L, o50_1a0, o50_1n0, o50_1c0, o50_1B0, h, o50_1N0, o50_1V0, rfl, rfl⟩ (agree_cons rfl (agree_cons rfl (agree_cons rfl (agree_cons rfl (agree_cons rfl (agree_cons rfl agree_nil)))))) (pSub (pCons Sel.hc (pCons Sel.hc (pApp Sel.ha pNil))))
    replace h := cf hc h
    refine wc_exit ?_
    refine wx_then_exit ?_
    obtain rfl := Option.some.inj h
    have h := hl27; clear hl27; try dsimp only [orE_l, orE_r] at h
    refine wx_then_exit ?_
    refine wx_block_exit ?_
    refine wx_then ?_
    refine wc_seq ?_
    refine wc_region ?_
    replace h := bsome h; obtain ⟨v68, x68, h⟩ := h
    refine wl_cq Tryd.call8 rfl rfl rfl (q_pf (k_hindcastlaw11_awake x68) (fun w hI => ⟨(Rds.call G0S pNil rsub_nil) w hI, (Rds.call G1S pNil rsub_nil) w hI⟩)) rfl ?_
    refine wl_pure tt_ok rfl rfl ?_
    refine wl_nil ?_
    refine wx_then ?_
    refine wc_ret ?_
    simp only [Option.some.injEq] at h
    obtain rfl := h
    exact wx_pf tt_ok (.inl rfl) Tryd.results6 (Res.tmp rfl Res.nil) rfl
  replace h := cf hc h
  refine wl_skip rfl rfl ?_
  refine wl_skip rfl rfl ?_
  simp only [Option.some.injEq, Prod.mk.injEq] at h
  obtain rfl := h
  have h := hg34; clear hg34
  refine wl_pure (v := .bool false) tt_ok rfl rfl ?_
  refine wl_nil ?_
  refine wx_then ?_
  replace h := cf rfl h
  refine wc_cond_false rfl ?_
  refine wc_exit ?_
  refine wx_then_exit ?_
  obtain rfl := Option.some.inj h
  have h := hl27; clear hl27; try dsimp only [orE_l, orE_r] at h
  refine wx_then_exit ?_
  refine wx_block_exit ?_
  refine wx_then ?_
  refine wc_seq ?_
  refine wc_region ?_
  replace h := bsome h; obtain ⟨v68, x68, h⟩ := h
  refine wl_cq Tryd.call8 rfl rfl rfl (q_pf (k_hindcastlaw11_awake x68) (fun w hI => ⟨(Rds.call G0S pNil rsub_nil) w hI, (Rds.call G1S pNil rsub_nil) w hI⟩)) rfl ?_
  refine wl_pure tt_ok rfl rfl ?_
  refine wl_nil ?_
  refine wx_then ?_
  refine wc_ret ?_
  simp only [Option.some.injEq] at h
  obtain rfl := h
  exact wx_pf tt_ok (.inl rfl) Tryd.results6 (Res.tmp rfl Res.nil) rfl

end Go.Proofs.YtfkkpnfbpolppaaDoor
