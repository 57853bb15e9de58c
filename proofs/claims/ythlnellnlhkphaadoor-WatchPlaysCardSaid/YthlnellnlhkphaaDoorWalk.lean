/-
  Each function computes what its model says. Printed by a program of this claim's own.
-/
import Derived.Test.YthlnellnlhkphaaDoorTab
import Derived.Test.YthlnellnlhkphaaDoorMod
import Derived.Test.YthlnellnlhkphaaDoorWalk3
import Derived.Test.YthlnellnlhkphaaDoorIns
namespace Go.Proofs.YthlnellnlhkphaaDoor
open Go.Proofs.YthlnellnlhkphaaDoor.Eng
set_option linter.unusedVariables false
set_option linter.unusedSimpArgs false
set_option maxHeartbeats 4000000
set_option maxRecDepth 20000

theorem k_hindcastref29_Watch_Agreed {F : Nat} {p0 : T_hindcastref29_Watch} {p0b p0t : Nat} {p0a0 : Option Addr} {p0n0 : Nat} {p0c0 : Nat} {p0B0 : List Blk} {r0 : Int} {r1 : Bool} (p0N0 : p0n0 = p0.L.length) (p0V0 : Own 77 5 p0a0 p0n0 p0c0 (flat c_T_hindcastref29_Entry p0.L) p0B0) (h : m_hindcastref29_Watch_Agreed F p0 = some (r0, r1)) :
    Rd2 Tryd.prog 15 [.pointer (some ⟨p0b, 0, none⟩)] (⟨p0b, [.int .u64 p0.Rows, .slice p0a0 p0n0 p0c0, .bool p0.Clashed], p0t, (0, 0)⟩ :: (p0B0 ++ [])) (fun w => True) (.tuple #[.int .u64 r0, .bool r1]) := by
  unfold m_hindcastref29_Watch_Agreed at h
  refine sp_of_wc Tryd.func15 rfl Tryd.ntmps15 rfl rfl (fun w0 hR => ?_)
  refine wc_seq (wc_region ?_)
  iterate 2 refine wl_pure tt_ok rfl rfl ?_
  refine wl_nil (wx_then (wc_seq (wc_region ?_)))
  iterate 2 refine wl_pure tt_ok rfl rfl ?_
  refine wl_nil (wx_then (wc_seq (wc_seq (wc_region ?_))))
  refine wl_pure tt_ok rfl rfl ?_
  refine wl_nil (wx_then (wc_block ?_))
  replace h := bsome h; obtain ⟨⟨l9_4, l9_5⟩, h, hl9⟩ := h; try dsimp only at hl9
  refine wc_loop (fun m E L => ∃ (j9_4 : Int) (j9_5 : Bool) (j9_6 : Int), m_hindcastref29_Watch_Agreed_L8 F p0 m j9_4 j9_5 j9_6 = some (l9_4, l9_5) ∧ E = [(0, .pointer (some ⟨p0b, 0, none⟩)), (2, .int .u64 (0 : Int)), (3, .bool false), (4, .int .u64 j9_4), (5, .bool j9_5), (6, .int .i64 j9_6)] ∧ L = (⟨p0b, [.int .u64 p0.Rows, .slice p0a0 p0n0 p0c0, .bool p0.Clashed], p0t, (0, 0)⟩ :: (p0B0 ++ []))) F ⟨(0 : Int), false, (0 : Int), h, rfl, rfl⟩ (agree_cons rfl (agree_cons rfl (agree_cons rfl (agree_cons rfl (agree_cons rfl (agree_cons rfl agree_nil)))))) (pSub (pCons Sel.hc (pApp Sel.ha pNil))) ?_
  clear h
  rintro m9 _ _ ⟨j9_4, j9_5, j9_6, h, rfl, rfl⟩
  rcases m9 with _ | m9
  · rw [m_hindcastref29_Watch_Agreed_L8.eq_1] at h; cases h
  rw [m_hindcastref29_Watch_Agreed_L8.eq_2] at h
  refine wc_seq (wc_seq (wc_region ?_))
  iterate 3 refine wl_pure tt_ok rfl rfl ?_
  refine wl_pure (v := .pointer (some ⟨p0b, 1, none⟩)) tt_ok rfl rfl ?_
  refine wl_val (v := .slice p0a0 p0n0 p0c0) (val_load tt_ok rfl (List.Mem.head _) rfl) rfl ?_
  refine wl_val (v := .int .i64 (p0.L.length : Int)) (val_len tt_ok rfl rfl p0N0) rfl ?_
  refine wl_pure (v := .bool (decide (j9_6 < (p0.L.length : Int)))) tt_ok rfl rfl ?_
  refine wl_nil (wx_then ?_)
  refine wc_cond rfl (fun hc => ?_) (fun hc => ?_)
  · replace h := ct hc h
    refine wc_skip (wx_then (wc_seq (wc_block (wc_seq (wc_region ?_)))))
    iterate 2 refine wl_pure tt_ok rfl rfl ?_
    refine wl_pure (v := .pointer (some ⟨p0b, 1, none⟩)) tt_ok rfl rfl ?_
    refine wl_val (v := .slice p0a0 p0n0 p0c0) (val_load tt_ok rfl (List.Mem.head _) rfl) rfl ?_
    refine wl_pure tt_ok rfl rfl ?_
    replace h := bsome h; obtain ⟨v22, x22, h⟩ := h
    refine wl_val (v := .pointer (some ((adOf p0a0).add (j9_6.toNat * 5 + 0)))) (val_ix (enc := c_T_hindcastref29_Entry) tt_ok rfl rfl rfl rfl p0N0 (Rds.of_vec p0V0) c_T_hindcastref29_Entry_len rfl x22) rfl ?_
    refine wl_val (v := .agg #[.int .u64 v22.F, .int .u64 v22.Sum.1, .int .u64 v22.Sum.2, .bool v22.Is.1, .bool v22.Is.2]) (val_le (enc := c_T_hindcastref29_Entry) (xs := p0.L) tt_ok rfl (Rds.of_vec p0V0) ⟨_, (Sel.sc Sel.ha)⟩ c_T_hindcastref29_Entry_len x22 rfl) rfl ?_
    refine wl_alloc tt_ok rfl rfl (fun b7 => ?_)
    apply wl_store tt_ok; rfl; exact Upd.here; rfl; rfl; rfl; rfl; rfl; rfl
    refine wl_nil (wx_then (wc_seq (wc_region ?_)))
    refine wl_pure (v := .pointer (some ⟨b7, 3, none⟩)) tt_ok rfl rfl ?_
    refine wl_val (v := .pointer (some ⟨b7, 3, none⟩)) (val_ia (j := 0) tt_ok rfl rfl rfl rfl rfl rfl rfl) rfl ?_
    refine wl_val (v := .bool v22.Is.1) (val_load tt_ok rfl (List.Mem.head _) rfl) rfl ?_
    refine wl_pure tt_ok rfl rfl ?_
    replace h := bsome h; obtain ⟨v31, h, hg31⟩ := h
    refine wl_split (t := 27) rfl (fun hc => ?_) (fun hc => ?_)
    · replace h := ct hc h
      refine wl_run rfl ?_
      refine wl_pure (v := .pointer (some ⟨b7, 3, none⟩)) tt_ok rfl rfl ?_
      refine wl_run rfl ?_
      refine wl_val (v := .pointer (some ⟨b7, 4, none⟩)) (val_ia (j := 1) tt_ok rfl rfl rfl rfl rfl rfl rfl) rfl ?_
      refine wl_run rfl ?_
      refine wl_val (v := .bool v22.Is.2) (val_load tt_ok rfl (List.Mem.head _) rfl) rfl ?_
      simp only [Option.some.injEq, Prod.mk.injEq] at h
      obtain rfl := h
      have h := hg31; clear hg31
      refine wl_pure (v := .bool v22.Is.2) tt_ok rfl rfl ?_
      refine wl_pure tt_ok rfl rfl ?_
      replace h := bsome h; obtain ⟨v40, h, hg40⟩ := h
      refine wl_split (t := 32) rfl (fun hc => ?_) (fun hc => ?_)
      · replace h := ct hc h
        refine wl_run rfl ?_
        refine wl_pure (v := .pointer (some ⟨b7, 1, none⟩)) tt_ok rfl rfl ?_
        refine wl_run rfl ?_
        refine wl_val (v := .pointer (some ⟨b7, 1, none⟩)) (val_ia (j := 0) tt_ok rfl rfl rfl rfl rfl rfl rfl) rfl ?_
        refine wl_run rfl ?_
        refine wl_val (v := .int .u64 v22.Sum.1) (val_load tt_ok rfl (List.Mem.head _) rfl) rfl ?_
        refine wl_run rfl ?_
        refine wl_pure (v := .pointer (some ⟨b7, 1, none⟩)) tt_ok rfl rfl ?_
        refine wl_run rfl ?_
        refine wl_val (v := .pointer (some ⟨b7, 2, none⟩)) (val_ia (j := 1) tt_ok rfl rfl rfl rfl rfl rfl rfl) rfl ?_
        refine wl_run rfl ?_
        refine wl_val (v := .int .u64 v22.Sum.2) (val_load tt_ok rfl (List.Mem.head _) rfl) rfl ?_
        refine wl_run rfl ?_
        refine wl_pure (v := .bool (v22.Sum.1 == v22.Sum.2)) tt_ok rfl rfl ?_
        simp only [Option.some.injEq, Prod.mk.injEq] at h
        obtain rfl := h
        have h := hg40; clear hg40
        refine wl_pure (v := .bool (v22.Sum.1 == v22.Sum.2)) tt_ok rfl rfl ?_
        refine wl_pure tt_ok rfl rfl ?_
        replace h := bsome h; obtain ⟨v50, h, hg50⟩ := h
        refine wl_split (t := 41) rfl (fun hc => ?_) (fun hc => ?_)
        · replace h := ct hc h
          refine wl_run rfl ?_
          refine wl_pure tt_ok rfl rfl ?_
          refine wl_run rfl ?_
          refine wl_pure (v := .bool (!j9_5)) tt_ok rfl rfl ?_
          refine wl_run rfl ?_
          refine wl_pure tt_ok rfl rfl ?_
          replace h := bsome h; obtain ⟨v49, h, hg49⟩ := h
          refine wl_split (t := 44) rfl (fun hc => ?_) (fun hc => ?_)
          · replace h := ct hc h
            refine wl_skip rfl rfl ?_
            refine wl_skip rfl rfl ?_
            refine wl_skip rfl rfl ?_
            refine wl_skip rfl rfl ?_
            simp only [Option.some.injEq, Prod.mk.injEq] at h
            obtain rfl := h
            have h := hg49; clear hg49
            refine wl_run rfl ?_
            refine wl_pure (v := .bool true) tt_ok rfl rfl ?_
            simp only [Option.some.injEq, Prod.mk.injEq] at h
            obtain rfl := h
            have h := hg50; clear hg50
            refine wl_pure (v := .bool true) tt_ok rfl rfl ?_
            refine wl_nil (wx_then ?_)
            replace h := ct rfl h
            refine wc_cond_true rfl ?_
            refine wc_seq (wc_region ?_)
            refine wl_pure (v := .pointer (some ⟨b7, 0, none⟩)) tt_ok rfl rfl ?_
            refine wl_val (v := .int .u64 v22.F) (val_load tt_ok rfl (List.Mem.head _) rfl) rfl ?_
            refine wl_pure tt_ok rfl rfl ?_
            refine wl_nil (wx_then (wc_region ?_))
            refine wl_pure tt_ok rfl rfl ?_
            refine wl_nil (wx_block (wx_then (wc_region ?_)))
            refine wl_pure tt_ok rfl rfl ?_
            refine wl_pure (v := .int .i64 (IntKind.wrap .i64 (j9_6 + (1 : Int)))) tt_ok rfl rfl ?_
            refine wl_pure tt_ok rfl rfl ?_
            refine wl_nil ?_
            exact wx_round m9 (Nat.lt_succ_self m9) ⟨v22.F, true, (IntKind.wrap .i64 (j9_6 + (1 : Int))), h, rfl, rfl⟩ (agree_cons rfl (agree_cons rfl (agree_cons rfl (agree_cons rfl (agree_cons rfl (agree_cons rfl agree_nil)))))) (pSub (pCons (Sel.sc Sel.hc) (pApp (Sel.sc Sel.ha) pNil)))
          replace h := cf hc h
          refine wl_run rfl ?_
          refine wl_pure (v := .pointer (some ⟨b7, 0, none⟩)) tt_ok rfl rfl ?_
          refine wl_run rfl ?_
          refine wl_val (v := .int .u64 v22.F) (val_load tt_ok rfl (List.Mem.head _) rfl) rfl ?_
          refine wl_run rfl ?_
          refine wl_pure tt_ok rfl rfl ?_
          refine wl_run rfl ?_
          refine wl_pure (v := .bool (decide (j9_4 < v22.F))) tt_ok rfl rfl ?_
          simp only [Option.some.injEq, Prod.mk.injEq] at h
          obtain rfl := h
          have h := hg49; clear hg49
          refine wl_run rfl ?_
          refine wl_pure (v := .bool (decide (j9_4 < v22.F))) tt_ok rfl rfl ?_
          simp only [Option.some.injEq, Prod.mk.injEq] at h
          obtain rfl := h
          have h := hg50; clear hg50
          refine wl_pure (v := .bool (decide (j9_4 < v22.F))) tt_ok rfl rfl ?_
          refine wl_nil (wx_then ?_)
          refine wc_cond rfl (fun hc => ?_) (fun hc => ?_)
          · replace h := ct hc h
            refine wc_seq (wc_region ?_)
            refine wl_pure (v := .pointer (some ⟨b7, 0, none⟩)) tt_ok rfl rfl ?_
            refine wl_val (v := .int .u64 v22.F) (val_load tt_ok rfl (List.Mem.head _) rfl) rfl ?_
            refine wl_pure tt_ok rfl rfl ?_
            refine wl_nil (wx_then (wc_region ?_))
            refine wl_pure tt_ok rfl rfl ?_
            refine wl_nil (wx_block (wx_then (wc_region ?_)))
            refine wl_pure tt_ok rfl rfl ?_
            refine wl_pure (v := .int .i64 (IntKind.wrap .i64 (j9_6 + (1 : Int)))) tt_ok rfl rfl ?_
            refine wl_pure tt_ok rfl rfl ?_
            refine wl_nil ?_
            exact wx_round m9 (Nat.lt_succ_self m9) ⟨v22.F, true, (IntKind.wrap .i64 (j9_6 + (1 : Int))), h, rfl, rfl⟩ (agree_cons rfl (agree_cons rfl (agree_cons rfl (agree_cons rfl (agree_cons rfl (agree_cons rfl agree_nil)))))) (pSub (pCons (Sel.sc Sel.hc) (pApp (Sel.sc Sel.ha) pNil)))
          replace h := cf hc h
          refine wc_skip (wx_block (wx_then (wc_region ?_)))
          refine wl_pure tt_ok rfl rfl ?_
          refine wl_pure (v := .int .i64 (IntKind.wrap .i64 (j9_6 + (1 : Int)))) tt_ok rfl rfl ?_
          refine wl_pure tt_ok rfl rfl ?_
          refine wl_nil ?_
          exact wx_round m9 (Nat.lt_succ_self m9) ⟨j9_4, j9_5, (IntKind.wrap .i64 (j9_6 + (1 : Int))), h, rfl, rfl⟩ (agree_cons rfl (agree_cons rfl (agree_cons rfl (agree_cons rfl (agree_cons rfl (agree_cons rfl agree_nil)))))) (pSub (pCons (Sel.sc Sel.hc) (pApp (Sel.sc Sel.ha) pNil)))
        replace h := cf hc h
        refine wl_skip rfl rfl ?_
        refine wl_skip rfl rfl ?_
        refine wl_skip rfl rfl ?_
        refine wl_skip rfl rfl ?_
        refine wl_skip rfl rfl ?_
        refine wl_skip rfl rfl ?_
        refine wl_skip rfl rfl ?_
        refine wl_skip rfl rfl ?_
        simp only [Option.some.injEq, Prod.mk.injEq] at h
        obtain rfl := h
        have h := hg50; clear hg50
        refine wl_pure (v := .bool false) tt_ok rfl rfl ?_
        refine wl_nil (wx_then ?_)
        replace h := cf rfl h
        refine wc_cond_false rfl ?_
        refine wc_skip (wx_block (wx_then (wc_region ?_)))
        refine wl_pure tt_ok rfl rfl ?_
        refine wl_pure (v := .int .i64 (IntKind.wrap .i64 (j9_6 + (1 : Int)))) tt_ok rfl rfl ?_
        refine wl_pure tt_ok rfl rfl ?_
        refine wl_nil ?_
        exact wx_round m9 (Nat.lt_succ_self m9) ⟨j9_4, j9_5, (IntKind.wrap .i64 (j9_6 + (1 : Int))), h, rfl, rfl⟩ (agree_cons rfl (agree_cons rfl (agree_cons rfl (agree_cons rfl (agree_cons rfl (agree_cons rfl agree_nil)))))) (pSub (pCons (Sel.sc Sel.hc) (pApp (Sel.sc Sel.ha) pNil)))
      replace h := cf hc h
      refine wl_skip rfl rfl ?_
      refine wl_skip rfl rfl ?_
      refine wl_skip rfl rfl ?_
      refine wl_skip rfl rfl ?_
      refine wl_skip rfl rfl ?_
      refine wl_skip rfl rfl ?_
      refine wl_skip rfl rfl ?_
      simp only [Option.some.injEq, Prod.mk.injEq] at h
      obtain rfl := h
      have h := hg40; clear hg40
      refine wl_pure (v := .bool false) tt_ok rfl rfl ?_
      refine wl_pure tt_ok rfl rfl ?_
      replace h := bsome h; obtain ⟨v50, h, hg50⟩ := h
      replace h := cf rfl h
      refine wl_skip rfl rfl ?_
      refine wl_skip rfl rfl ?_
      refine wl_skip rfl rfl ?_
      refine wl_skip rfl rfl ?_
      refine wl_skip rfl rfl ?_
      refine wl_skip rfl rfl ?_
      refine wl_skip rfl rfl ?_
      refine wl_skip rfl rfl ?_
      simp only [Option.some.injEq, Prod.mk.injEq] at h
      obtain rfl := h
      have h := hg50; clear hg50
      refine wl_pure (v := .bool false) tt_ok rfl rfl ?_
      refine wl_nil (wx_then ?_)
      replace h := cf rfl h
      refine wc_cond_false rfl ?_
      refine wc_skip (wx_block (wx_then (wc_region ?_)))
      refine wl_pure tt_ok rfl rfl ?_
      refine wl_pure (v := .int .i64 (IntKind.wrap .i64 (j9_6 + (1 : Int)))) tt_ok rfl rfl ?_
      refine wl_pure tt_ok rfl rfl ?_
      refine wl_nil ?_
      exact wx_round m9 (Nat.lt_succ_self m9) ⟨j9_4, j9_5, (IntKind.wrap .i64 (j9_6 + (1 : Int))), h, rfl, rfl⟩ (agree_cons rfl (agree_cons rfl (agree_cons rfl (agree_cons rfl (agree_cons rfl (agree_cons rfl agree_nil)))))) (pSub (pCons (Sel.sc Sel.hc) (pApp (Sel.sc Sel.ha) pNil)))
    replace h := cf hc h
    refine wl_skip rfl rfl ?_
    refine wl_skip rfl rfl ?_
    refine wl_skip rfl rfl ?_
    simp only [Option.some.injEq, Prod.mk.injEq] at h
    obtain rfl := h
    have h := hg31; clear hg31
    refine wl_pure (v := .bool false) tt_ok rfl rfl ?_
    refine wl_pure tt_ok rfl rfl ?_
    replace h := bsome h; obtain ⟨v40, h, hg40⟩ := h
    replace h := cf rfl h
    refine wl_skip rfl rfl ?_
    refine wl_skip rfl rfl ?_
    refine wl_skip rfl rfl ?_
    refine wl_skip rfl rfl ?_
    refine wl_skip rfl rfl ?_
    refine wl_skip rfl rfl ?_
    refine wl_skip rfl rfl ?_
    simp only [Option.some.injEq, Prod.mk.injEq] at h
    obtain rfl := h
    have h := hg40; clear hg40
    refine wl_pure (v := .bool false) tt_ok rfl rfl ?_
    refine wl_pure tt_ok rfl rfl ?_
    replace h := bsome h; obtain ⟨v50, h, hg50⟩ := h
    replace h := cf rfl h
    refine wl_skip rfl rfl ?_
    refine wl_skip rfl rfl ?_
    refine wl_skip rfl rfl ?_
    refine wl_skip rfl rfl ?_
    refine wl_skip rfl rfl ?_
    refine wl_skip rfl rfl ?_
    refine wl_skip rfl rfl ?_
    refine wl_skip rfl rfl ?_
    simp only [Option.some.injEq, Prod.mk.injEq] at h
    obtain rfl := h
    have h := hg50; clear hg50
    refine wl_pure (v := .bool false) tt_ok rfl rfl ?_
    refine wl_nil (wx_then ?_)
    replace h := cf rfl h
    refine wc_cond_false rfl ?_
    refine wc_skip (wx_block (wx_then (wc_region ?_)))
    refine wl_pure tt_ok rfl rfl ?_
    refine wl_pure (v := .int .i64 (IntKind.wrap .i64 (j9_6 + (1 : Int)))) tt_ok rfl rfl ?_
    refine wl_pure tt_ok rfl rfl ?_
    refine wl_nil ?_
    exact wx_round m9 (Nat.lt_succ_self m9) ⟨j9_4, j9_5, (IntKind.wrap .i64 (j9_6 + (1 : Int))), h, rfl, rfl⟩ (agree_cons rfl (agree_cons rfl (agree_cons rfl (agree_cons rfl (agree_cons rfl (agree_cons rfl agree_nil)))))) (pSub (pCons (Sel.sc Sel.hc) (pApp (Sel.sc Sel.ha) pNil)))
  replace h := cf hc h
  refine wc_exit (wx_then_exit ?_)
  simp only [Option.some.injEq, Prod.mk.injEq] at h
  obtain ⟨rfl, rfl⟩ := h
  have h := hl9; clear hl9; try dsimp only [orE_l, orE_r] at h
  refine wx_then_exit (wx_block_exit (wx_then (wc_seq (wc_region ?_))))
  iterate 4 refine wl_pure tt_ok rfl rfl ?_
  refine wl_nil (wx_then (wc_ret ?_))
  simp only [Option.some.injEq, Prod.mk.injEq] at h
  obtain ⟨rfl, rfl⟩ := h
  exact wx_rd tt_ok (.inl rfl) Tryd.results15 (Res.tmp rfl (Res.tmp rfl Res.nil)) (pSub (pCons Sel.hc (pApp Sel.ha pNil))) rfl

theorem k_hindcastlaw29_WatchPlays {F : Nat} {p0 : Int} {p1 : (List T_hindcastlaw29_Act)} {p1a0 : Option Addr} {p1n0 p1c0 : Nat} {p1g0 : List (T_hindcastlaw29_Act × G)} {r0 : Bool} (p1N0 : p1n0 = p1.length) (p1H0 : p1n0 ≤ p1c0) (p1G0 : p1 = unG p1g0) (h : m_hindcastlaw29_WatchPlays F p0 p1 = some r0) :
    Pf Tryd.prog 3 [.int .i64 p0, .slice p1a0 p1n0 p1c0] (fun w => Rds w [] [] p1a0 (flat cg_T_hindcastlaw29_Act p1g0) ∧ AllRd sh_T_hindcastlaw29_Act c_T_api_Shot w [] [] p1g0 ∧ Rds w [] [] (some ⟨0, 0, none⟩) (flat (fun _ : Unit => gl_state_playerBounds) [()]) ∧ Rds w [] [] (some ⟨1, 0, none⟩) (flat (fun _ : Unit => gl_state_shotBounds) [()])) (.bool r0) := by
  unfold m_hindcastlaw29_WatchPlays at h
  refine pf_of_wc Tryd.func3 rfl Tryd.ntmps3 rfl rfl (fun w0 hR => ?_)
  obtain ⟨p1S0, p1A0, G0S, G1S⟩ := hR
  refine wc_seq (wc_region ?_)
  refine wl_pure tt_ok rfl rfl ?_
  refine wl_nil (wx_then (wc_seq (wc_region ?_)))
  refine wl_pure tt_ok rfl rfl ?_
  replace h := bsome h; obtain ⟨v19, x19, h⟩ := h
  rcases v19 with _ | v19s
  · replace h := poN h
    refine wl_cs Tryd.call6 rfl rfl rfl (s_sp (k_watch_New_none x19) pNil (fun _ _ => trivial)) rfl ?_
    rintro _ _ ⟨_, ⟨rfl, rfl⟩, rfl⟩
    refine wl_pure tt_ok rfl rfl ?_
    refine wl_nil (wx_then (wc_seq (wc_seq (wc_region ?_))))
    refine wl_pure tt_ok rfl rfl ?_
    replace h := bsome h; obtain ⟨v21, x21, h⟩ := h
    refine wl_cq Tryd.call7 rfl rfl rfl (q_pf (k_hindcastref29_May x21) (fun _ _ => trivial)) rfl ?_
    refine wl_pure (v := .bool (!v21)) tt_ok rfl rfl ?_
    refine wl_nil (wx_then ?_)
    refine wc_cond rfl (fun hc => ?_) (fun hc => ?_)
    · replace h := ct hc h
      refine wc_seq (wc_region ?_)
      refine wl_pure tt_ok rfl rfl ?_
      refine wl_pure (v := .bool true) tt_ok rfl rfl ?_
      refine wl_pure tt_ok rfl rfl ?_
      replace h := bsome h; obtain ⟨v26, x26, h⟩ := h
      refine wl_run rfl ?_
      refine wl_cq Tryd.call8 rfl rfl rfl (q_pf (k_hindcastlaw29_awake x26) (fun _ _ => trivial)) rfl ?_
      refine wl_pure (v := .bool v26) tt_ok rfl rfl ?_
      refine wl_pure tt_ok rfl rfl ?_
      refine wl_nil (wx_then (wc_ret (wx_then_ret ?_)))
      simp only [Option.some.injEq] at h
      obtain rfl := h
      exact wx_pf tt_ok (.inl rfl) Tryd.results3 (Res.tmp rfl Res.nil) rfl
    replace h := cf hc h
    refine wc_skip (wx_then (wc_seq (wc_seq (wc_region ?_))))
    refine wl_pure tt_ok rfl rfl ?_
    refine wl_pure (v := .bool true) tt_ok rfl rfl ?_
    refine wl_nil (wx_then ?_)
    refine wc_cond_true rfl ?_
    refine wc_seq (wc_region ?_)
    refine wl_pure tt_ok rfl rfl ?_
    refine wl_nil (wx_then (wc_ret (wx_then_ret ?_)))
    simp only [Option.some.injEq] at h
    obtain rfl := h
    exact wx_pf tt_ok (.inl rfl) Tryd.results3 (Res.tmp rfl Res.nil) rfl
  replace h := poS h
  refine wl_cs Tryd.call6 rfl rfl rfl (s_sp (k_watch_New x19) pNil (fun _ _ => trivial)) rfl ?_
  rintro _ _ ⟨_, ⟨b19_0, v19sa0, v19sn0, v19sc0, v19sB0, v19sN0, v19sV0, rfl, rfl⟩, rfl⟩
  refine wl_pure tt_ok rfl rfl ?_
  refine wl_nil (wx_then (wc_seq (wc_seq (wc_region ?_))))
  refine wl_pure tt_ok rfl rfl ?_
  replace h := bsome h; obtain ⟨v21, x21, h⟩ := h
  refine wl_cq Tryd.call7 rfl rfl rfl (q_pf (k_hindcastref29_May x21) (fun _ _ => trivial)) rfl ?_
  refine wl_pure (v := .bool (!v21)) tt_ok rfl rfl ?_
  refine wl_nil (wx_then ?_)
  refine wc_cond rfl (fun hc => ?_) (fun hc => ?_)
  · replace h := ct hc h
    refine wc_seq (wc_region ?_)
    refine wl_pure tt_ok rfl rfl ?_
    refine wl_pure (v := .bool false) tt_ok rfl rfl ?_
    refine wl_pure tt_ok rfl rfl ?_
    refine wl_skip rfl rfl ?_
    refine wl_pure (v := .bool false) tt_ok rfl rfl ?_
    refine wl_pure tt_ok rfl rfl ?_
    refine wl_nil (wx_then (wc_ret (wx_then_ret ?_)))
    simp only [Option.some.injEq] at h
    obtain rfl := h
    exact wx_pf tt_ok (.inl rfl) Tryd.results3 (Res.tmp rfl Res.nil) rfl
  replace h := cf hc h
  refine wc_skip (wx_then (wc_seq (wc_seq (wc_region ?_))))
  refine wl_pure tt_ok rfl rfl ?_
  refine wl_pure (v := .bool false) tt_ok rfl rfl ?_
  refine wl_nil (wx_then ?_)
  refine wc_cond_false rfl ?_
  refine wc_skip (wx_then (wc_seq (wc_seq (wc_region ?_))))
  refine wl_pure tt_ok rfl rfl ?_
  replace h := bsome h; obtain ⟨v31, x31, h⟩ := h
  refine wl_cq Tryd.call9 rfl rfl rfl (q_pf (k_hindcastlaw29_few (p0 := p1) p1N0 p1H0 p1G0 x31) (fun w hI => ⟨(Rds.call p1S0 pNil rsub_nil) w hI, (AllRd.call p1A0 pNil rsub_nil) w hI⟩)) rfl ?_
  refine wl_pure (v := .bool (!v31)) tt_ok rfl rfl ?_
  refine wl_nil (wx_then ?_)
  refine wc_cond rfl (fun hc => ?_) (fun hc => ?_)
  · replace h := ct hc h
    refine wc_seq (wc_region ?_)
    replace h := bsome h; obtain ⟨v33, x33, h⟩ := h
    refine wl_cq Tryd.call8 rfl rfl rfl (q_pf (k_hindcastlaw29_awake x33) (fun _ _ => trivial)) rfl ?_
    refine wl_pure tt_ok rfl rfl ?_
    refine wl_nil (wx_then (wc_ret (wx_then_ret ?_)))
    simp only [Option.some.injEq] at h
    obtain rfl := h
    exact wx_pf tt_ok (.inl rfl) Tryd.results3 (Res.tmp rfl Res.nil) rfl
  replace h := cf hc h
  refine wc_skip (wx_then (wc_seq (wc_region ?_)))
  refine wl_pure tt_ok rfl rfl ?_
  refine wl_pure (v := .int .u64 (IntKind.wrap .u64 p0)) tt_ok rfl rfl ?_
  refine wl_pure (v := .agg #[.int .u64 (IntKind.wrap .u64 p0), .slice none 0 0, .bool false]) tt_ok rfl rfl ?_
  refine wl_box rfl rfl rfl (fun b37 => ?_)
  refine wl_pure tt_ok rfl rfl ?_
  refine wl_nil (wx_then (wc_seq (wc_seq (wc_region ?_))))
  refine wl_pure tt_ok rfl rfl ?_
  refine wl_nil (wx_then (wc_block ?_))
  replace h := bsome h; obtain ⟨o35, h, hl35⟩ := h
  refine wc_loop (fun m E L => ∃ (j35_7 : Int) (j35_n19_0_f0 : Int) (j35_n19_0_f1 : (List T_watch_entry)) (j35_n19_0_f2 : Bool) (j35_n37_f0 : Int) (j35_n37_f1 : (List T_hindcastref29_Entry)) (j35_n37_f2 : Bool) (j35_n19_0_f1a0 : Option Addr) (j35_n19_0_f1n0 : Nat) (j35_n19_0_f1c0 : Nat) (j35_n19_0_f1B0 : List Blk) (j35_n37_f1a0 : Option Addr) (j35_n37_f1n0 : Nat) (j35_n37_f1c0 : Nat) (j35_n37_f1B0 : List Blk), m_hindcastlaw29_WatchPlays_L34 F p1 m j35_7 j35_n19_0_f0 j35_n19_0_f1 j35_n19_0_f2 j35_n37_f0 j35_n37_f1 j35_n37_f2 = some o35 ∧ j35_n19_0_f1n0 = j35_n19_0_f1.length ∧ Own 73 5 j35_n19_0_f1a0 j35_n19_0_f1n0 j35_n19_0_f1c0 (flat c_T_watch_entry j35_n19_0_f1) j35_n19_0_f1B0 ∧ j35_n37_f1n0 = j35_n37_f1.length ∧ Own 77 5 j35_n37_f1a0 j35_n37_f1n0 j35_n37_f1c0 (flat c_T_hindcastref29_Entry j35_n37_f1) j35_n37_f1B0 ∧ E = [(1, .slice p1a0 p1n0 p1c0), (4, .bool false), (5, .pointer (some ⟨b19_0, 0, none⟩)), (6, .pointer (some ⟨b37, 0, none⟩)), (7, .int .i64 j35_7)] ∧ L = (⟨b19_0, [.int .u64 j35_n19_0_f0, .slice j35_n19_0_f1a0 j35_n19_0_f1n0 j35_n19_0_f1c0, .bool j35_n19_0_f2], 56, (0, 0)⟩ :: (⟨b37, [.int .u64 j35_n37_f0, .slice j35_n37_f1a0 j35_n37_f1n0 j35_n37_f1c0, .bool j35_n37_f2], 32, (0, 0)⟩ :: (j35_n19_0_f1B0 ++ (j35_n37_f1B0 ++ []))))) F ⟨(0 : Int), v19s.rows, v19s.l, v19s.clashed, (IntKind.wrap .u64 p0), ([] : List T_hindcastref29_Entry), false, v19sa0, v19sn0, v19sc0, v19sB0, none, 0, 0, [], h, v19sN0, v19sV0, rfl, Own.zero, rfl, rfl⟩ (agree_cons rfl (agree_cons rfl (agree_cons rfl (agree_cons rfl (agree_cons rfl agree_nil))))) (pSub (pCons (Sel.sc Sel.hc) (pCons Sel.hc (pApp Sel.ha (pNo pNil))))) ?_
  clear h
  rintro m35 _ _ ⟨j35_7, j35_n19_0_f0, j35_n19_0_f1, j35_n19_0_f2, j35_n37_f0, j35_n37_f1, j35_n37_f2, j35_n19_0_f1a0, j35_n19_0_f1n0, j35_n19_0_f1c0, j35_n19_0_f1B0, j35_n37_f1a0, j35_n37_f1n0, j35_n37_f1c0, j35_n37_f1B0, h, j35_n19_0_f1N0, j35_n19_0_f1V0, j35_n37_f1N0, j35_n37_f1V0, rfl, rfl⟩
  rcases m35 with _ | m35
  · rw [m_hindcastlaw29_WatchPlays_L34.eq_1] at h; cases h
  rw [m_hindcastlaw29_WatchPlays_L34.eq_2] at h
  refine wc_seq (wc_seq (wc_region ?_))
  iterate 2 refine wl_pure tt_ok rfl rfl ?_
  refine wl_val (v := .int .i64 (p1.length : Int)) (val_len tt_ok rfl rfl p1N0) rfl ?_
  refine wl_pure (v := .bool (decide (j35_7 < (p1.length : Int)))) tt_ok rfl rfl ?_
  refine wl_nil (wx_then ?_)
  refine wc_cond rfl (fun hc => ?_) (fun hc => ?_)
  · replace h := ct hc h
    refine wc_skip (wx_then (wc_seq (wc_block (wc_seq (wc_seq ?_)))))
    refine wc_k2 (Ls := []) [6, 10] [] [0, 0, 0, 0, 12, 28, 63, 127, 255, 511, 1023, 511, 2559, 6655, 14847, 32767, 65535] [0, 1, 2, 3, 4, 5, 6, 7, 8, 9, 11, 12, 13, 14, 10, 15, 16] (by kernel_rfl) (by kernel_rfl) (by kernel_rfl) ?_
    refine k_val rfl rfl rfl (pSub pNil) (stepV_ok tt_ok rfl) rfl ?_
    refine k_val rfl rfl rfl (pSub pNil) (stepV_ok tt_ok rfl) rfl ?_
    refine k_val rfl rfl rfl (pSub pNil) (stepV_ok tt_ok rfl) rfl ?_
    refine k_val rfl rfl rfl (pSub pNil) (stepV_ok tt_ok rfl) rfl ?_
    replace h := bsome h; obtain ⟨v48, x48, h⟩ := h
    obtain ⟨G48, y48⟩ := getI_g p1G0 x48
    refine k_val (v := .pointer (some ((adOf p1a0).add (j35_7.toNat * 22 + 0)))) rfl rfl rfl (pSub pNil) (val_ix (enc := cg_T_hindcastlaw29_Act) tt_ok rfl rfl rfl rfl (len_g p1N0 p1G0) p1S0 cg_T_hindcastlaw29_Act_len rfl y48) rfl ?_
    refine k_val (v := .agg #[.int .u8 v48.What, .int .u64 v48.F, .int .u64 v48.Sum, .int .u64 v48.S.Frame, .int .u64 v48.S.Seed, .int .i32 v48.S.Players.1.X, .int .i32 v48.S.Players.1.Y, .int .i32 v48.S.Players.1.VX, .int .i32 v48.S.Players.1.VY, .int .u8 v48.S.Players.1.Health, .int .u8 v48.S.Players.1.Cool, .int .u8 v48.S.Players.1.Face, .int .i32 v48.S.Players.2.X, .int .i32 v48.S.Players.2.Y, .int .i32 v48.S.Players.2.VX, .int .i32 v48.S.Players.2.VY, .int .u8 v48.S.Players.2.Health, .int .u8 v48.S.Players.2.Cool, .int .u8 v48.S.Players.2.Face, .slice G48.1 G48.2.1 G48.2.2, .int .u16 v48.S.Score.1, .int .u16 v48.S.Score.2]) rfl rfl rfl (pSub pNil) (val_le (enc := cg_T_hindcastlaw29_Act) (xs := p1g0) tt_ok rfl p1S0 rsub_nil cg_T_hindcastlaw29_Act_len y48 rfl) rfl ?_
    replace h := bsome h; obtain ⟨⟨o50_0, o50_1, v50⟩, x50, h⟩ := h; try dsimp only at h
    refine k_cs rfl rfl rfl Tryd.call10 rfl rfl rfl (s_sp (k_hindcastlaw29_one (p0 := (T_watch_Watch.mk j35_n19_0_f0 j35_n19_0_f1 j35_n19_0_f2)) (p1 := (T_hindcastref29_Watch.mk j35_n37_f0 j35_n37_f1 j35_n37_f2)) (p2 := v48) j35_n19_0_f1N0 j35_n19_0_f1V0 j35_n37_f1N0 j35_n37_f1V0 (allrd_get p1A0 y48).1 (allrd_get p1A0 y48).2.1 x50) (pCons Sel.hc (pApp (Sel.sc Sel.ha) (pCons Sel.hc (pApp Sel.ha pNil)))) (fun w hI => ⟨(Rds.call (allrd_get p1A0 y48).2.2.1 (pCons Sel.hc (pApp (Sel.sc Sel.ha) (pCons Sel.hc (pApp Sel.ha pNil)))) rsub_nil) w hI, (Rds.call G0S (pCons Sel.hc (pApp (Sel.sc Sel.ha) (pCons Sel.hc (pApp Sel.ha pNil)))) rsub_nil) w hI, (Rds.call G1S (pCons Sel.hc (pApp (Sel.sc Sel.ha) (pCons Sel.hc (pApp Sel.ha pNil)))) rsub_nil) w hI⟩)) rfl (.inr (by rintro _ _ ⟨_, ⟨_, _, _, _, _, _, _, _, _, _, _, _, rfl, rfl⟩, rfl⟩; exact ⟨_, pNil⟩)) ?_
    rintro _ _ ⟨_, ⟨o50_0a0, o50_0n0, o50_0c0, o50_0B0, o50_1a0, o50_1n0, o50_1c0, o50_1B0, o50_0N0, o50_0V0, o50_1N0, o50_1V0, rfl, rfl⟩, rfl⟩
    refine k_val (v := .bool (!v50)) rfl rfl rfl (pSub pNil) (stepV_ok tt_ok rfl) rfl ?_
    refine k_val rfl rfl rfl (pSub pNil) (stepV_ok tt_ok rfl) rfl ?_
    replace h := bsome h; obtain ⟨v60, h, hg60⟩ := h
    refine k_split (t := 52) rfl (fun hc => ?_) (fun hc => ?_)
    · replace h := ct hc h
      refine k_skip rfl rfl (pSub pNil) rfl ?_
      refine k_skip rfl rfl (pSub pNil) rfl ?_
      refine k_skip rfl rfl (pSub pNil) rfl ?_
      refine k_skip rfl rfl (pSub pNil) rfl ?_
      refine k_skip rfl rfl (pSub pNil) rfl ?_
      refine k_skip rfl rfl (pSub pNil) rfl ?_
      refine k_skip rfl rfl (pSub pNil) rfl ?_
      simp only [Option.some.injEq, Prod.mk.injEq] at h
      obtain rfl := h
      have h := hg60; clear hg60
      refine k_val (v := .bool true) rfl rfl rfl (pSub pNil) (stepV_ok tt_ok rfl) rfl ?_
      refine k_end (by kernel_rfl) ?_
      refine wx_then ?_
      replace h := ct rfl h
      refine wc_cond_true rfl ?_
      refine wc_seq (wc_region ?_)
      refine wl_pure tt_ok rfl rfl ?_
      refine wl_nil (wx_then (wc_ret (wx_then_ret (wx_block_ret (wx_then_ret ?_)))))
      obtain rfl := Option.some.inj h
      have h := hl35; clear hl35; try dsimp only [orE_l, orE_r] at h
      refine wx_then_ret (wx_block_ret (wx_then_ret ?_))
      simp only [Option.some.injEq] at h
      obtain rfl := h
      exact wx_pf tt_ok (.inl rfl) Tryd.results3 (Res.tmp rfl Res.nil) rfl
    replace h := cf hc h
    refine k_val rfl rfl rfl (pSub pNil) (stepV_ok tt_ok rfl) rfl ?_
    refine k_val rfl rfl rfl (pSub pNil) (stepV_ok tt_ok rfl) rfl ?_
    refine k_val rfl rfl rfl (pSub pNil) (stepV_ok tt_ok rfl) rfl ?_
    refine k_val (v := .pointer (some ⟨b37, 2, none⟩)) rfl rfl rfl (pSub pNil) (stepV_ok tt_ok rfl) rfl ?_
    refine k_ls (Ls' := (⟨b37, [.int .u64 o50_1.Rows, .slice o50_1a0 o50_1n0 o50_1c0, .bool o50_1.Clashed], 32, (0, 0)⟩ :: [])) (pSub pNil) ?_
    refine k_val (v := .bool o50_1.Clashed) rfl rfl rfl (pSub (pCons (Sel.sc (Sel.sa Sel.hc)) pNil)) (val_load tt_ok rfl (List.Mem.head _) rfl) rfl ?_
    replace h := bsome h; obtain ⟨v54, x54, h⟩ := h
    refine k_cq rfl rfl rfl Tryd.call11 rfl rfl rfl (q_rd (k_watch_Watch_Clashed (p0 := o50_0) o50_0N0 o50_0V0 x54) (pCons Sel.hc (pApp Sel.ha pNil)) (fun _ _ => trivial)) rfl (pSub (pCons (Sel.sc (Sel.sa Sel.hc)) pNil)) ?_
    refine k_val (v := .bool (v54 != o50_1.Clashed)) rfl rfl rfl (pSub (pCons (Sel.sc (Sel.sa Sel.hc)) pNil)) (stepV_ok tt_ok rfl) rfl ?_
    simp only [Option.some.injEq, Prod.mk.injEq] at h
    obtain rfl := h
    have h := hg60; clear hg60
    refine k_val (v := .bool (v54 != o50_1.Clashed)) rfl rfl rfl (pSub (pCons (Sel.sc (Sel.sa Sel.hc)) pNil)) (stepV_ok tt_ok rfl) rfl ?_
    refine k_end (by kernel_rfl) ?_
    refine wx_then ?_
    refine wc_cond rfl (fun hc => ?_) (fun hc => ?_)
    · replace h := ct hc h
      refine wc_seq (wc_region ?_)
      refine wl_pure tt_ok rfl rfl ?_
      refine wl_nil (wx_then (wc_ret (wx_then_ret (wx_block_ret (wx_then_ret ?_)))))
      obtain rfl := Option.some.inj h
      have h := hl35; clear hl35; try dsimp only [orE_l, orE_r] at h
      refine wx_then_ret (wx_block_ret (wx_then_ret ?_))
      simp only [Option.some.injEq] at h
      obtain rfl := h
      exact wx_pf tt_ok (.inl rfl) Tryd.results3 (Res.tmp rfl Res.nil) rfl
    replace h := cf hc h
    refine wc_skip (wx_then (wc_seq (wc_region ?_)))
    refine wl_pure tt_ok rfl rfl ?_
    replace h := bsome h; obtain ⟨⟨v63_0, v63_1, v63_2⟩, x63, h⟩ := h; try dsimp only at h
    refine wl_cq Tryd.call12 rfl rfl rfl (q_rd (k_watch_Watch_Latest (p0 := o50_0) o50_0N0 o50_0V0 x63) (pCons Sel.hc (pApp Sel.ha pNil)) (fun _ _ => trivial)) rfl ?_
    iterate 7 refine wl_pure tt_ok rfl rfl ?_
    refine wl_nil (wx_then (wc_seq (wc_region ?_)))
    refine wl_pure tt_ok rfl rfl ?_
    replace h := bsome h; obtain ⟨⟨v69_0, v69_1, v69_2⟩, x69, h⟩ := h; try dsimp only at h
    refine wl_cq Tryd.call13 rfl rfl rfl (q_rd (k_hindcastref29_Watch_Latest (p0 := o50_1) o50_1N0 o50_1V0 x69) (pCons (Sel.sc (Sel.sa Sel.hc)) (pApp (Sel.sc (Sel.sa Sel.ha)) pNil)) (fun _ _ => trivial)) rfl ?_
    iterate 7 refine wl_pure tt_ok rfl rfl ?_
    refine wl_nil (wx_then (wc_seq (wc_region ?_)))
    refine wl_pure tt_ok rfl rfl ?_
    replace h := bsome h; obtain ⟨⟨v75_0, v75_1⟩, x75, h⟩ := h; try dsimp only at h
    refine wl_cq Tryd.call14 rfl rfl rfl (q_rd (k_watch_Watch_Agreed (p0 := o50_0) o50_0N0 o50_0V0 x75) (pCons Sel.hc (pApp Sel.ha pNil)) (fun _ _ => trivial)) rfl ?_
    iterate 5 refine wl_pure tt_ok rfl rfl ?_
    refine wl_nil (wx_then (wc_seq (wc_region ?_)))
    refine wl_pure tt_ok rfl rfl ?_
    replace h := bsome h; obtain ⟨⟨v80_0, v80_1⟩, x80, h⟩ := h; try dsimp only at h
    refine wl_cq Tryd.call15 rfl rfl rfl (q_rd (k_hindcastref29_Watch_Agreed (p0 := o50_1) o50_1N0 o50_1V0 x80) (pCons (Sel.sc (Sel.sa Sel.hc)) (pApp (Sel.sc (Sel.sa Sel.ha)) pNil)) (fun _ _ => trivial)) rfl ?_
    iterate 5 refine wl_pure tt_ok rfl rfl ?_
    refine wl_nil (wx_then (wc_seq (wc_region ?_)))
    iterate 2 refine wl_pure tt_ok rfl rfl ?_
    refine wl_pure (v := .bool (v63_0 != v69_0)) tt_ok rfl rfl ?_
    refine wl_pure tt_ok rfl rfl ?_
    replace h := bsome h; obtain ⟨v90, h, hg90⟩ := h
    refine wl_split (t := 86) rfl (fun hc => ?_) (fun hc => ?_)
    · replace h := ct hc h
      refine wl_skip rfl rfl ?_
      refine wl_skip rfl rfl ?_
      refine wl_skip rfl rfl ?_
      simp only [Option.some.injEq, Prod.mk.injEq] at h
      obtain rfl := h
      have h := hg90; clear hg90
      refine wl_pure (v := .bool true) tt_ok rfl rfl ?_
      refine wl_pure tt_ok rfl rfl ?_
      replace h := bsome h; obtain ⟨v95, h, hg95⟩ := h
      replace h := ct rfl h
      refine wl_skip rfl rfl ?_
      refine wl_skip rfl rfl ?_
      refine wl_skip rfl rfl ?_
      simp only [Option.some.injEq, Prod.mk.injEq] at h
      obtain rfl := h
      have h := hg95; clear hg95
      refine wl_pure (v := .bool true) tt_ok rfl rfl ?_
      refine wl_pure tt_ok rfl rfl ?_
      replace h := bsome h; obtain ⟨v100, h, hg100⟩ := h
      replace h := ct rfl h
      refine wl_skip rfl rfl ?_
      refine wl_skip rfl rfl ?_
      refine wl_skip rfl rfl ?_
      simp only [Option.some.injEq, Prod.mk.injEq] at h
      obtain rfl := h
      have h := hg100; clear hg100
      refine wl_pure (v := .bool true) tt_ok rfl rfl ?_
      refine wl_pure tt_ok rfl rfl ?_
      replace h := bsome h; obtain ⟨v105, h, hg105⟩ := h
      replace h := ct rfl h
      refine wl_skip rfl rfl ?_
      refine wl_skip rfl rfl ?_
      refine wl_skip rfl rfl ?_
      simp only [Option.some.injEq, Prod.mk.injEq] at h
      obtain rfl := h
      have h := hg105; clear hg105
      refine wl_pure (v := .bool true) tt_ok rfl rfl ?_
      refine wl_nil (wx_then ?_)
      replace h := ct rfl h
      refine wc_cond_true rfl ?_
      refine wc_seq (wc_region ?_)
      refine wl_pure tt_ok rfl rfl ?_
      refine wl_nil (wx_then (wc_ret (wx_block_ret (wx_then_ret ?_))))
      obtain rfl := Option.some.inj h
      have h := hl35; clear hl35; try dsimp only [orE_l, orE_r] at h
      refine wx_then_ret (wx_block_ret (wx_then_ret ?_))
      simp only [Option.some.injEq] at h
      obtain rfl := h
      exact wx_pf tt_ok (.inl rfl) Tryd.results3 (Res.tmp rfl Res.nil) rfl
    replace h := cf hc h
    refine wl_run rfl ?_
    refine wl_pure tt_ok rfl rfl ?_
    refine wl_run rfl ?_
    refine wl_pure tt_ok rfl rfl ?_
    refine wl_run rfl ?_
    refine wl_pure (v := .bool (v63_1 != v69_1)) tt_ok rfl rfl ?_
    simp only [Option.some.injEq, Prod.mk.injEq] at h
    obtain rfl := h
    have h := hg90; clear hg90
    refine wl_pure (v := .bool (v63_1 != v69_1)) tt_ok rfl rfl ?_
    refine wl_pure tt_ok rfl rfl ?_
    replace h := bsome h; obtain ⟨v95, h, hg95⟩ := h
    refine wl_split (t := 91) rfl (fun hc => ?_) (fun hc => ?_)
    · replace h := ct hc h
      refine wl_skip rfl rfl ?_
      refine wl_skip rfl rfl ?_
      refine wl_skip rfl rfl ?_
      simp only [Option.some.injEq, Prod.mk.injEq] at h
      obtain rfl := h
      have h := hg95; clear hg95
      refine wl_pure (v := .bool true) tt_ok rfl rfl ?_
      refine wl_pure tt_ok rfl rfl ?_
      replace h := bsome h; obtain ⟨v100, h, hg100⟩ := h
      replace h := ct rfl h
      refine wl_skip rfl rfl ?_
      refine wl_skip rfl rfl ?_
      refine wl_skip rfl rfl ?_
      simp only [Option.some.injEq, Prod.mk.injEq] at h
      obtain rfl := h
      have h := hg100; clear hg100
      refine wl_pure (v := .bool true) tt_ok rfl rfl ?_
      refine wl_pure tt_ok rfl rfl ?_
      replace h := bsome h; obtain ⟨v105, h, hg105⟩ := h
      replace h := ct rfl h
      refine wl_skip rfl rfl ?_
      refine wl_skip rfl rfl ?_
      refine wl_skip rfl rfl ?_
      simp only [Option.some.injEq, Prod.mk.injEq] at h
      obtain rfl := h
      have h := hg105; clear hg105
      refine wl_pure (v := .bool true) tt_ok rfl rfl ?_
      refine wl_nil (wx_then ?_)
      replace h := ct rfl h
      refine wc_cond_true rfl ?_
      refine wc_seq (wc_region ?_)
      refine wl_pure tt_ok rfl rfl ?_
      refine wl_nil (wx_then (wc_ret (wx_block_ret (wx_then_ret ?_))))
      obtain rfl := Option.some.inj h
      have h := hl35; clear hl35; try dsimp only [orE_l, orE_r] at h
      refine wx_then_ret (wx_block_ret (wx_then_ret ?_))
      simp only [Option.some.injEq] at h
      obtain rfl := h
      exact wx_pf tt_ok (.inl rfl) Tryd.results3 (Res.tmp rfl Res.nil) rfl
    replace h := cf hc h
    refine wl_run rfl ?_
    refine wl_pure tt_ok rfl rfl ?_
    refine wl_run rfl ?_
    refine wl_pure tt_ok rfl rfl ?_
    refine wl_run rfl ?_
    refine wl_pure (v := .bool (v63_2 != v69_2)) tt_ok rfl rfl ?_
    simp only [Option.some.injEq, Prod.mk.injEq] at h
    obtain rfl := h
    have h := hg95; clear hg95
    refine wl_pure (v := .bool (v63_2 != v69_2)) tt_ok rfl rfl ?_
    refine wl_pure tt_ok rfl rfl ?_
    replace h := bsome h; obtain ⟨v100, h, hg100⟩ := h
    refine wl_split (t := 96) rfl (fun hc => ?_) (fun hc => ?_)
    · replace h := ct hc h
      refine wl_skip rfl rfl ?_
      refine wl_skip rfl rfl ?_
      refine wl_skip rfl rfl ?_
      simp only [Option.some.injEq, Prod.mk.injEq] at h
      obtain rfl := h
      have h := hg100; clear hg100
      refine wl_pure (v := .bool true) tt_ok rfl rfl ?_
      refine wl_pure tt_ok rfl rfl ?_
      replace h := bsome h; obtain ⟨v105, h, hg105⟩ := h
      replace h := ct rfl h
      refine wl_skip rfl rfl ?_
      refine wl_skip rfl rfl ?_
      refine wl_skip rfl rfl ?_
      simp only [Option.some.injEq, Prod.mk.injEq] at h
      obtain rfl := h
      have h := hg105; clear hg105
      refine wl_pure (v := .bool true) tt_ok rfl rfl ?_
      refine wl_nil (wx_then ?_)
      replace h := ct rfl h
      refine wc_cond_true rfl ?_
      refine wc_seq (wc_region ?_)
      refine wl_pure tt_ok rfl rfl ?_
      refine wl_nil (wx_then (wc_ret (wx_block_ret (wx_then_ret ?_))))
      obtain rfl := Option.some.inj h
      have h := hl35; clear hl35; try dsimp only [orE_l, orE_r] at h
      refine wx_then_ret (wx_block_ret (wx_then_ret ?_))
      simp only [Option.some.injEq] at h
      obtain rfl := h
      exact wx_pf tt_ok (.inl rfl) Tryd.results3 (Res.tmp rfl Res.nil) rfl
    replace h := cf hc h
    refine wl_run rfl ?_
    refine wl_pure tt_ok rfl rfl ?_
    refine wl_run rfl ?_
    refine wl_pure tt_ok rfl rfl ?_
    refine wl_run rfl ?_
    refine wl_pure (v := .bool (v75_0 != v80_0)) tt_ok rfl rfl ?_
    simp only [Option.some.injEq, Prod.mk.injEq] at h
    obtain rfl := h
    have h := hg100; clear hg100
    refine wl_pure (v := .bool (v75_0 != v80_0)) tt_ok rfl rfl ?_
    refine wl_pure tt_ok rfl rfl ?_
    replace h := bsome h; obtain ⟨v105, h, hg105⟩ := h
    refine wl_split (t := 101) rfl (fun hc => ?_) (fun hc => ?_)
    · replace h := ct hc h
      refine wl_skip rfl rfl ?_
      refine wl_skip rfl rfl ?_
      refine wl_skip rfl rfl ?_
      simp only [Option.some.injEq, Prod.mk.injEq] at h
      obtain rfl := h
      have h := hg105; clear hg105
      refine wl_pure (v := .bool true) tt_ok rfl rfl ?_
      refine wl_nil (wx_then ?_)
      replace h := ct rfl h
      refine wc_cond_true rfl ?_
      refine wc_seq (wc_region ?_)
      refine wl_pure tt_ok rfl rfl ?_
      refine wl_nil (wx_then (wc_ret (wx_block_ret (wx_then_ret ?_))))
      obtain rfl := Option.some.inj h
      have h := hl35; clear hl35; try dsimp only [orE_l, orE_r] at h
      refine wx_then_ret (wx_block_ret (wx_then_ret ?_))
      simp only [Option.some.injEq] at h
      obtain rfl := h
      exact wx_pf tt_ok (.inl rfl) Tryd.results3 (Res.tmp rfl Res.nil) rfl
    replace h := cf hc h
    refine wl_run rfl ?_
    refine wl_pure tt_ok rfl rfl ?_
    refine wl_run rfl ?_
    refine wl_pure tt_ok rfl rfl ?_
    refine wl_run rfl ?_
    refine wl_pure (v := .bool (v75_1 != v80_1)) tt_ok rfl rfl ?_
    simp only [Option.some.injEq, Prod.mk.injEq] at h
    obtain rfl := h
    have h := hg105; clear hg105
    refine wl_pure (v := .bool (v75_1 != v80_1)) tt_ok rfl rfl ?_
    refine wl_nil (wx_then ?_)
    refine wc_cond rfl (fun hc => ?_) (fun hc => ?_)
    · replace h := ct hc h
      refine wc_seq (wc_region ?_)
      refine wl_pure tt_ok rfl rfl ?_
      refine wl_nil (wx_then (wc_ret (wx_block_ret (wx_then_ret ?_))))
      obtain rfl := Option.some.inj h
      have h := hl35; clear hl35; try dsimp only [orE_l, orE_r] at h
      refine wx_then_ret (wx_block_ret (wx_then_ret ?_))
      simp only [Option.some.injEq] at h
      obtain rfl := h
      exact wx_pf tt_ok (.inl rfl) Tryd.results3 (Res.tmp rfl Res.nil) rfl
    replace h := cf hc h
    refine wc_skip (wx_block (wx_then (wc_region ?_)))
    refine wl_pure tt_ok rfl rfl ?_
    refine wl_pure (v := .int .i64 (IntKind.wrap .i64 (j35_7 + (1 : Int)))) tt_ok rfl rfl ?_
    refine wl_pure tt_ok rfl rfl ?_
    refine wl_nil ?_
    exact wx_round m35 (Nat.lt_succ_self m35) ⟨(IntKind.wrap .i64 (j35_7 + (1 : Int))), o50_0.rows, o50_0.l, o50_0.clashed, o50_1.Rows, o50_1.L, o50_1.Clashed, o50_0a0, o50_0n0, o50_0c0, o50_0B0, o50_1a0, o50_1n0, o50_1c0, o50_1B0, h, o50_0N0, o50_0V0, o50_1N0, o50_1V0, rfl, rfl⟩ (agree_cons rfl (agree_cons rfl (agree_cons rfl (agree_cons rfl (agree_cons rfl agree_nil))))) (pSub (pCons Sel.hc (pCons (Sel.sa Sel.hc) (pApp Sel.ha (pApp Sel.ha pNil)))))
  replace h := cf hc h
  refine wc_exit (wx_then_exit ?_)
  obtain rfl := Option.some.inj h
  have h := hl35; clear hl35; try dsimp only [orE_l, orE_r] at h
  refine wx_then_exit (wx_block_exit (wx_then (wc_seq (wc_region ?_))))
  replace h := bsome h; obtain ⟨v106, x106, h⟩ := h
  refine wl_cq Tryd.call8 rfl rfl rfl (q_pf (k_hindcastlaw29_awake x106) (fun _ _ => trivial)) rfl ?_
  refine wl_pure tt_ok rfl rfl ?_
  refine wl_nil (wx_then (wc_ret ?_))
  simp only [Option.some.injEq] at h
  obtain rfl := h
  exact wx_pf tt_ok (.inl rfl) Tryd.results3 (Res.tmp rfl Res.nil) rfl

end Go.Proofs.YthlnellnlhkphaaDoor
