/-
  Each function computes what its model says. Printed by a program of this claim's own.
-/
import Derived.Test.YtfkkpnfbpolppaaDoorTab
import Derived.Test.YtfkkpnfbpolppaaDoorMod
import Derived.Test.YtfkkpnfbpolppaaDoorWalk2
namespace Go.Proofs.YtfkkpnfbpolppaaDoor
open Go.Proofs.YtfkkpnfbpolppaaDoor.Eng
set_option linter.unusedVariables false
set_option linter.unusedSimpArgs false
set_option maxHeartbeats 4000000
set_option maxRecDepth 20000

theorem k_hindcastref09_speed {F : Nat} {p0 : Int} {p1 : Int} {p2 : Bool} {r0 : Int} (h : m_hindcastref09_speed F p0 p1 p2 = some r0) :
    Pf Tryd.prog 73 [.int .i32 p0, .int .i32 p1, .bool p2] (fun w => True) (.int .i32 r0) := by
  unfold m_hindcastref09_speed at h
  refine pf_of_wc Tryd.func73 rfl Tryd.ntmps73 rfl rfl (fun w0 hR => ?_)
  refine wc_seq ?_
  refine wc_region ?_
  refine wl_pure tt_ok rfl rfl ?_
  refine wl_nil ?_
  refine wx_then ?_
  refine wc_seq ?_
  refine wc_seq ?_
  refine wc_region ?_
  refine wl_pure tt_ok rfl rfl ?_
  refine wl_pure (v := .bool (p1 != (0 : Int))) tt_ok rfl rfl ?_
  refine wl_nil ?_
  refine wx_then ?_
  replace h := bsome h; obtain ⟨j6_0, h, hj6⟩ := h
  refine wc_join2 (fun E L => E = [(0, .int .i32 j6_0), (1, .int .i32 p1), (2, .bool p2), (6, .int .i32 (0 : Int))] ∧ L = []) ?_ ?_
  · refine wc_cond rfl (fun hc => ?_) (fun hc => ?_)
    · replace h := ct hc h
      refine wc_region ?_
      refine wl_pure tt_ok rfl rfl ?_
      refine wl_pure tt_ok rfl rfl ?_
      refine wl_pure (v := .int .i32 (IntKind.wrap .i32 ((64 : Int) * p1))) tt_ok rfl rfl ?_
      refine wl_pure (v := .int .i32 (IntKind.wrap .i32 (p0 + (IntKind.wrap .i32 ((64 : Int) * p1))))) tt_ok rfl rfl ?_
      refine wl_pure tt_ok rfl rfl ?_
      refine wl_nil ?_
      simp only [Option.some.injEq] at h
      obtain rfl := h
      exact wx_join ⟨rfl, rfl⟩ (agree_cons rfl (agree_cons rfl (agree_cons rfl (agree_cons rfl agree_nil)))) (pSub pNil)
    replace h := cf hc h
    refine wc_skip ?_
    simp only [Option.some.injEq] at h
    obtain rfl := h
    exact wx_join ⟨rfl, rfl⟩ (agree_cons rfl (agree_cons rfl (agree_cons rfl (agree_cons rfl agree_nil)))) (pSub pNil)
  rintro _ _ ⟨rfl, rfl⟩
  have h := hj6; clear hj6
  refine wc_seq ?_
  refine wc_seq ?_
  refine wc_region ?_
  refine wl_pure tt_ok rfl rfl ?_
  refine wl_pure (v := .bool (p1 == (0 : Int))) tt_ok rfl rfl ?_
  refine wl_nil ?_
  refine wx_then ?_
  replace h := bsome h; obtain ⟨j12_0, h, hj12⟩ := h
  refine wc_join2 (fun E L => E = [(0, .int .i32 j12_0), (2, .bool p2), (6, .int .i32 (0 : Int))] ∧ L = []) ?_ ?_
  · refine wc_cond rfl (fun hc => ?_) (fun hc => ?_)
    · replace h := ct hc h
      refine wc_seq ?_
      refine wc_region ?_
      refine wl_pure tt_ok rfl rfl ?_
      refine wl_pure tt_ok rfl rfl ?_
      refine wl_pure (v := .int .i32 (IntKind.wrap .i32 (Int.tdiv j6_0 8))) tt_ok rfl rfl ?_
      refine wl_pure (v := .int .i32 (IntKind.wrap .i32 (j6_0 - (IntKind.wrap .i32 (Int.tdiv j6_0 8))))) tt_ok rfl rfl ?_
      refine wl_pure tt_ok rfl rfl ?_
      refine wl_nil ?_
      refine wx_then ?_
      refine wc_seq ?_
      refine wc_region ?_
      refine wl_pure tt_ok rfl rfl ?_
      refine wl_pure (v := .bool (decide ((-8 : Int) < (IntKind.wrap .i32 (j6_0 - (IntKind.wrap .i32 (Int.tdiv j6_0 8))))))) tt_ok rfl rfl ?_
      refine wl_pure tt_ok rfl rfl ?_
      replace h := bsome h; obtain ⟨v24, h, hg24⟩ := h
      refine wl_split (t := 21) rfl (fun hc => ?_) (fun hc => ?_)
      · replace h := ct hc h
        refine wl_run rfl ?_
        refine wl_pure tt_ok rfl rfl ?_
        refine wl_run rfl ?_
        refine wl_pure (v := .bool (decide ((IntKind.wrap .i32 (j6_0 - (IntKind.wrap .i32 (Int.tdiv j6_0 8)))) < (8 : Int)))) tt_ok rfl rfl ?_
        simp only [Option.some.injEq, Prod.mk.injEq] at h
        obtain rfl := h
        have h := hg24; clear hg24
        refine wl_pure (v := .bool (decide ((IntKind.wrap .i32 (j6_0 - (IntKind.wrap .i32 (Int.tdiv j6_0 8)))) < (8 : Int)))) tt_ok rfl rfl ?_
        refine wl_nil ?_
        refine wx_then ?_
        refine wc_cond rfl (fun hc => ?_) (fun hc => ?_)
        · replace h := ct hc h
          refine wc_region ?_
          refine wl_pure tt_ok rfl rfl ?_
          refine wl_nil ?_
          simp only [Option.some.injEq] at h
          obtain rfl := h
          exact wx_join ⟨rfl, rfl⟩ (agree_cons rfl (agree_cons rfl (agree_cons rfl agree_nil))) (pSub pNil)
        replace h := cf hc h
        refine wc_skip ?_
        simp only [Option.some.injEq] at h
        obtain rfl := h
        exact wx_join ⟨rfl, rfl⟩ (agree_cons rfl (agree_cons rfl (agree_cons rfl agree_nil))) (pSub pNil)
      replace h := cf hc h
      refine wl_skip rfl rfl ?_
      refine wl_skip rfl rfl ?_
      simp only [Option.some.injEq, Prod.mk.injEq] at h
      obtain rfl := h
      have h := hg24; clear hg24
      refine wl_pure (v := .bool false) tt_ok rfl rfl ?_
      refine wl_nil ?_
      refine wx_then ?_
      replace h := cf rfl h
      refine wc_cond_false rfl ?_
      refine wc_skip ?_
      simp only [Option.some.injEq] at h
      obtain rfl := h
      exact wx_join ⟨rfl, rfl⟩ (agree_cons rfl (agree_cons rfl (agree_cons rfl agree_nil))) (pSub pNil)
    replace h := cf hc h
    refine wc_skip ?_
    simp only [Option.some.injEq] at h
    obtain rfl := h
    exact wx_join ⟨rfl, rfl⟩ (agree_cons rfl (agree_cons rfl (agree_cons rfl agree_nil))) (pSub pNil)
  rintro _ _ ⟨rfl, rfl⟩
  have h := hj12; clear hj12
  refine wc_seq ?_
  refine wc_seq ?_
  refine wc_region ?_
  refine wl_pure tt_ok rfl rfl ?_
  refine wl_nil ?_
  refine wx_then ?_
  replace h := bsome h; obtain ⟨j24_0, h, hj24⟩ := h
  refine wc_join2 (fun E L => E = [(0, .int .i32 j24_0), (6, .int .i32 (0 : Int))] ∧ L = []) ?_ ?_
  · refine wc_cond rfl (fun hc => ?_) (fun hc => ?_)
    · replace h := ct hc h
      refine wc_region ?_
      refine wl_pure tt_ok rfl rfl ?_
      refine wl_pure (v := .int .i32 (IntKind.wrap .i32 (j12_0 * (2 : Int)))) tt_ok rfl rfl ?_
      refine wl_pure tt_ok rfl rfl ?_
      refine wl_nil ?_
      simp only [Option.some.injEq] at h
      obtain rfl := h
      exact wx_join ⟨rfl, rfl⟩ (agree_cons rfl (agree_cons rfl agree_nil)) (pSub pNil)
    replace h := cf hc h
    refine wc_skip ?_
    simp only [Option.some.injEq] at h
    obtain rfl := h
    exact wx_join ⟨rfl, rfl⟩ (agree_cons rfl (agree_cons rfl agree_nil)) (pSub pNil)
  rintro _ _ ⟨rfl, rfl⟩
  have h := hj24; clear hj24
  refine wc_seq ?_
  refine wc_seq ?_
  refine wc_region ?_
  refine wl_pure tt_ok rfl rfl ?_
  refine wl_pure (v := .bool (decide ((1024 : Int) < j24_0))) tt_ok rfl rfl ?_
  refine wl_nil ?_
  refine wx_then ?_
  refine wc_cond rfl (fun hc => ?_) (fun hc => ?_)
  · replace h := ct hc h
    refine wc_seq ?_
    refine wc_region ?_
    refine wl_pure tt_ok rfl rfl ?_
    refine wl_nil ?_
    refine wx_then ?_
    refine wc_ret ?_
    refine wx_then_ret ?_
    simp only [Option.some.injEq] at h
    obtain rfl := h
    exact wx_pf tt_ok (.inl rfl) Tryd.results73 (Res.tmp rfl Res.nil) rfl
  replace h := cf hc h
  refine wc_skip ?_
  refine wx_then ?_
  refine wc_seq ?_
  refine wc_seq ?_
  refine wc_region ?_
  refine wl_pure tt_ok rfl rfl ?_
  refine wl_pure (v := .bool (decide (j24_0 < (-1024 : Int)))) tt_ok rfl rfl ?_
  refine wl_nil ?_
  refine wx_then ?_
  refine wc_cond rfl (fun hc => ?_) (fun hc => ?_)
  · replace h := ct hc h
    refine wc_seq ?_
    refine wc_region ?_
    refine wl_pure tt_ok rfl rfl ?_
    refine wl_nil ?_
    refine wx_then ?_
    refine wc_ret ?_
    refine wx_then_ret ?_
    simp only [Option.some.injEq] at h
    obtain rfl := h
    exact wx_pf tt_ok (.inl rfl) Tryd.results73 (Res.tmp rfl Res.nil) rfl
  replace h := cf hc h
  refine wc_skip ?_
  refine wx_then ?_
  refine wc_seq ?_
  refine wc_region ?_
  refine wl_pure tt_ok rfl rfl ?_
  refine wl_pure tt_ok rfl rfl ?_
  refine wl_nil ?_
  refine wx_then ?_
  refine wc_ret ?_
  simp only [Option.some.injEq] at h
  obtain rfl := h
  exact wx_pf tt_ok (.inl rfl) Tryd.results73 (Res.tmp rfl Res.nil) rfl

theorem k_hindcastref09_one {F : Nat} {p0 : T_api_Player} {p1 : Int} {r0 : T_api_Player} (h : m_hindcastref09_one F p0 p1 = some r0) :
    Pf Tryd.prog 54 [.agg #[.int .i32 p0.X, .int .i32 p0.Y, .int .i32 p0.VX, .int .i32 p0.VY, .int .u8 p0.Health, .int .u8 p0.Cool, .int .u8 p0.Face], .int .u8 p1] (fun w => True) (.agg #[.int .i32 r0.X, .int .i32 r0.Y, .int .i32 r0.VX, .int .i32 r0.VY, .int .u8 r0.Health, .int .u8 r0.Cool, .int .u8 r0.Face]) := by
  unfold m_hindcastref09_one at h
  refine pf_of_wc Tryd.func54 rfl Tryd.ntmps54 rfl rfl (fun w0 hR => ?_)
  refine wc_seq ?_
  refine wc_region ?_
  refine wl_box rfl rfl rfl (fun b2 => ?_)
  refine wl_alloc tt_ok rfl rfl (fun b4 => ?_)
  refine wl_nil ?_
  refine wx_then ?_
  refine wc_seq ?_
  refine wc_region ?_
  refine wl_pure tt_ok rfl rfl ?_
  replace h := bsome h; obtain ⟨⟨v10_0, v10_1⟩, x10, h⟩ := h; try dsimp only at h
  refine wl_cq Tryd.call71 rfl rfl rfl (q_pf (k_hindcastref06_Dir x10) (fun _ _ => trivial)) rfl ?_
  refine wl_pure tt_ok rfl rfl ?_
  refine wl_pure tt_ok rfl rfl ?_
  refine wl_pure tt_ok rfl rfl ?_
  refine wl_pure tt_ok rfl rfl ?_
  refine wl_pure tt_ok rfl rfl ?_
  refine wl_nil ?_
  refine wx_then ?_
  refine wc_seq ?_
  refine wc_seq ?_
  refine wc_region ?_
  refine wl_pure (v := .pointer (some ⟨b2, 5, none⟩)) tt_ok rfl rfl ?_
  refine wl_val (v := .int .u8 p0.Cool) (val_load tt_ok rfl (List.Mem.tail _ (List.Mem.head _)) rfl) rfl ?_
  refine wl_pure (v := .bool (decide ((0 : Int) < p0.Cool))) tt_ok rfl rfl ?_
  refine wl_nil ?_
  refine wx_then ?_
  replace h := bsome h; obtain ⟨j8_n2, h, hj8⟩ := h
  refine wc_join2 (fun E L => E = [(1, .int .u8 p1), (2, .pointer (some ⟨b2, 0, none⟩)), (4, .pointer (some ⟨b4, 0, none⟩)), (5, .int .i32 v10_0), (6, .int .i32 v10_1)] ∧ L = (⟨b2, [.int .i32 j8_n2.X, .int .i32 j8_n2.Y, .int .i32 j8_n2.VX, .int .i32 j8_n2.VY, .int .u8 j8_n2.Health, .int .u8 j8_n2.Cool, .int .u8 j8_n2.Face], 24, (0, 0)⟩ :: (⟨b4, [.int .i32 (0 : Int), .int .i32 (0 : Int), .int .i32 (0 : Int), .int .i32 (0 : Int), .int .u8 (0 : Int), .int .u8 (0 : Int), .int .u8 (0 : Int)], 24, (0, 0)⟩ :: []))) ?_ ?_
  · refine wc_cond rfl (fun hc => ?_) (fun hc => ?_)
    · replace h := ct hc h
      refine wc_region ?_
      refine wl_pure (v := .pointer (some ⟨b2, 5, none⟩)) tt_ok rfl rfl ?_
      refine wl_val (v := .int .u8 p0.Cool) (val_load tt_ok rfl (List.Mem.tail _ (List.Mem.head _)) rfl) rfl ?_
      refine wl_pure (v := .int .u8 (IntKind.wrap .u8 (p0.Cool - (1 : Int)))) tt_ok rfl rfl ?_
      refine wl_pure (v := .pointer (some ⟨b2, 5, none⟩)) tt_ok rfl rfl ?_
      apply wl_store tt_ok; rfl; exact (Upd.there Upd.here); rfl; rfl; rfl; rfl; rfl; rfl
      refine wl_nil ?_
      simp only [Option.some.injEq] at h
      obtain rfl := h
      exact wx_join ⟨rfl, rfl⟩ (agree_cons rfl (agree_cons rfl (agree_cons rfl (agree_cons rfl (agree_cons rfl agree_nil))))) (pSub (pCons (Sel.sc Sel.hc) (pCons Sel.hc pNil)))
    replace h := cf hc h
    refine wc_skip ?_
    simp only [Option.some.injEq] at h
    obtain rfl := h
    exact wx_join ⟨rfl, rfl⟩ (agree_cons rfl (agree_cons rfl (agree_cons rfl (agree_cons rfl (agree_cons rfl agree_nil))))) (pSub (pCons (Sel.sc Sel.hc) (pCons Sel.hc pNil)))
  rintro _ _ ⟨rfl, rfl⟩
  have h := hj8; clear hj8
  refine wc_seq ?_
  refine wc_seq ?_
  refine wc_region ?_
  refine wl_pure tt_ok rfl rfl ?_
  refine wl_pure (v := .bool (decide ((0 : Int) < v10_0))) tt_ok rfl rfl ?_
  refine wl_nil ?_
  refine wx_then ?_
  replace h := bsome h; obtain ⟨j14_n2, h, hj14⟩ := h
  refine wc_join2 (fun E L => E = [(1, .int .u8 p1), (2, .pointer (some ⟨b2, 0, none⟩)), (4, .pointer (some ⟨b4, 0, none⟩)), (5, .int .i32 v10_0), (6, .int .i32 v10_1)] ∧ L = (⟨b2, [.int .i32 j14_n2.X, .int .i32 j14_n2.Y, .int .i32 j14_n2.VX, .int .i32 j14_n2.VY, .int .u8 j14_n2.Health, .int .u8 j14_n2.Cool, .int .u8 j14_n2.Face], 24, (0, 0)⟩ :: (⟨b4, [.int .i32 (0 : Int), .int .i32 (0 : Int), .int .i32 (0 : Int), .int .i32 (0 : Int), .int .u8 (0 : Int), .int .u8 (0 : Int), .int .u8 (0 : Int)], 24, (0, 0)⟩ :: []))) ?_ ?_
  · refine wc_cond rfl (fun hc => ?_) (fun hc => ?_)
    · replace h := ct hc h
      refine wc_region ?_
      refine wl_pure (v := .pointer (some ⟨b2, 6, none⟩)) tt_ok rfl rfl ?_
      apply wl_store tt_ok; rfl; exact Upd.here; rfl; rfl; rfl; rfl; rfl; rfl
      refine wl_nil ?_
      simp only [Option.some.injEq] at h
      obtain rfl := h
      exact wx_join ⟨rfl, rfl⟩ (agree_cons rfl (agree_cons rfl (agree_cons rfl (agree_cons rfl (agree_cons rfl agree_nil))))) (pSub (pCons Sel.hc (pCons Sel.hc pNil)))
    replace h := cf hc h
    refine wc_seq ?_
    refine wc_region ?_
    refine wl_pure tt_ok rfl rfl ?_
    refine wl_pure (v := .bool (decide (v10_0 < (0 : Int)))) tt_ok rfl rfl ?_
    refine wl_nil ?_
    refine wx_then ?_
    refine wc_cond rfl (fun hc => ?_) (fun hc => ?_)
    · replace h := ct hc h
      refine wc_region ?_
      refine wl_pure (v := .pointer (some ⟨b2, 6, none⟩)) tt_ok rfl rfl ?_
      apply wl_store tt_ok; rfl; exact Upd.here; rfl; rfl; rfl; rfl; rfl; rfl
      refine wl_nil ?_
      simp only [Option.some.injEq] at h
      obtain rfl := h
      exact wx_join ⟨rfl, rfl⟩ (agree_cons rfl (agree_cons rfl (agree_cons rfl (agree_cons rfl (agree_cons rfl agree_nil))))) (pSub (pCons Sel.hc (pCons Sel.hc pNil)))
    replace h := cf hc h
    refine wc_seq ?_
    refine wc_region ?_
    refine wl_pure tt_ok rfl rfl ?_
    refine wl_pure (v := .bool (decide (v10_1 < (0 : Int)))) tt_ok rfl rfl ?_
    refine wl_nil ?_
    refine wx_then ?_
    refine wc_cond rfl (fun hc => ?_) (fun hc => ?_)
    · replace h := ct hc h
      refine wc_region ?_
      refine wl_pure (v := .pointer (some ⟨b2, 6, none⟩)) tt_ok rfl rfl ?_
      apply wl_store tt_ok; rfl; exact Upd.here; rfl; rfl; rfl; rfl; rfl; rfl
      refine wl_nil ?_
      simp only [Option.some.injEq] at h
      obtain rfl := h
      exact wx_join ⟨rfl, rfl⟩ (agree_cons rfl (agree_cons rfl (agree_cons rfl (agree_cons rfl (agree_cons rfl agree_nil))))) (pSub (pCons Sel.hc (pCons Sel.hc pNil)))
    replace h := cf hc h
    refine wc_seq ?_
    refine wc_region ?_
    refine wl_pure tt_ok rfl rfl ?_
    refine wl_pure (v := .bool (decide ((0 : Int) < v10_1))) tt_ok rfl rfl ?_
    refine wl_nil ?_
    refine wx_then ?_
    refine wc_cond rfl (fun hc => ?_) (fun hc => ?_)
    · replace h := ct hc h
      refine wc_region ?_
      refine wl_pure (v := .pointer (some ⟨b2, 6, none⟩)) tt_ok rfl rfl ?_
      apply wl_store tt_ok; rfl; exact Upd.here; rfl; rfl; rfl; rfl; rfl; rfl
      refine wl_nil ?_
      simp only [Option.some.injEq] at h
      obtain rfl := h
      exact wx_join ⟨rfl, rfl⟩ (agree_cons rfl (agree_cons rfl (agree_cons rfl (agree_cons rfl (agree_cons rfl agree_nil))))) (pSub (pCons Sel.hc (pCons Sel.hc pNil)))
    replace h := cf hc h
    refine wc_skip ?_
    simp only [Option.some.injEq] at h
    obtain rfl := h
    exact wx_join ⟨rfl, rfl⟩ (agree_cons rfl (agree_cons rfl (agree_cons rfl (agree_cons rfl (agree_cons rfl agree_nil))))) (pSub (pCons Sel.hc (pCons Sel.hc pNil)))
  rintro _ _ ⟨rfl, rfl⟩
  have h := hj14; clear hj14
  refine wc_seq ?_
  refine wc_region ?_
  refine wl_pure tt_ok rfl rfl ?_
  replace h := bsome h; obtain ⟨v33, x33, h⟩ := h
  refine wl_cq Tryd.call72 rfl rfl rfl (q_pf (k_hindcastref06_Dash x33) (fun _ _ => trivial)) rfl ?_
  refine wl_pure tt_ok rfl rfl ?_
  replace h := bsome h; obtain ⟨v38, h, hg38⟩ := h
  refine wl_split (t := 34) rfl (fun hc => ?_) (fun hc => ?_)
  · replace h := ct hc h
    refine wl_run rfl ?_
    refine wl_pure (v := .pointer (some ⟨b2, 5, none⟩)) tt_ok rfl rfl ?_
    refine wl_run rfl ?_
    refine wl_val (v := .int .u8 j14_n2.Cool) (val_load tt_ok rfl (List.Mem.head _) rfl) rfl ?_
    refine wl_run rfl ?_
    refine wl_pure (v := .bool (j14_n2.Cool == (0 : Int))) tt_ok rfl rfl ?_
    simp only [Option.some.injEq, Prod.mk.injEq] at h
    obtain rfl := h
    have h := hg38; clear hg38
    refine wl_pure (v := .bool (j14_n2.Cool == (0 : Int))) tt_ok rfl rfl ?_
    refine wl_pure tt_ok rfl rfl ?_
    refine wl_nil ?_
    refine wx_then ?_
    refine wc_seq ?_
    refine wc_region ?_
    refine wl_pure (v := .pointer (some ⟨b2, 2, none⟩)) tt_ok rfl rfl ?_
    refine wl_val (v := .int .i32 j14_n2.VX) (val_load tt_ok rfl (List.Mem.head _) rfl) rfl ?_
    refine wl_pure tt_ok rfl rfl ?_
    refine wl_pure tt_ok rfl rfl ?_
    replace h := bsome h; obtain ⟨v43, x43, h⟩ := h
    refine wl_cq Tryd.call73 rfl rfl rfl (q_pf (k_hindcastref09_speed x43) (fun _ _ => trivial)) rfl ?_
    refine wl_pure (v := .pointer (some ⟨b2, 2, none⟩)) tt_ok rfl rfl ?_
    apply wl_store tt_ok; rfl; exact Upd.here; rfl; rfl; rfl; rfl; rfl; rfl
    refine wl_nil ?_
    refine wx_then ?_
    refine wc_seq ?_
    refine wc_region ?_
    refine wl_pure (v := .pointer (some ⟨b2, 3, none⟩)) tt_ok rfl rfl ?_
    refine wl_val (v := .int .i32 j14_n2.VY) (val_load tt_ok rfl (List.Mem.head _) rfl) rfl ?_
    refine wl_pure tt_ok rfl rfl ?_
    refine wl_pure tt_ok rfl rfl ?_
    replace h := bsome h; obtain ⟨v49, x49, h⟩ := h
    refine wl_cq Tryd.call73 rfl rfl rfl (q_pf (k_hindcastref09_speed x49) (fun _ _ => trivial)) rfl ?_
    refine wl_pure (v := .pointer (some ⟨b2, 3, none⟩)) tt_ok rfl rfl ?_
    apply wl_store tt_ok; rfl; exact Upd.here; rfl; rfl; rfl; rfl; rfl; rfl
    refine wl_nil ?_
    refine wx_then ?_
    refine wc_seq ?_
    refine wc_seq ?_
    refine wc_region ?_
    refine wl_pure tt_ok rfl rfl ?_
    refine wl_nil ?_
    refine wx_then ?_
    replace h := bsome h; obtain ⟨j38_n2, h, hj38⟩ := h
    refine wc_join2 (fun E L => E = [(2, .pointer (some ⟨b2, 0, none⟩)), (4, .pointer (some ⟨b4, 0, none⟩))] ∧ L = (⟨b2, [.int .i32 j38_n2.X, .int .i32 j38_n2.Y, .int .i32 j38_n2.VX, .int .i32 j38_n2.VY, .int .u8 j38_n2.Health, .int .u8 j38_n2.Cool, .int .u8 j38_n2.Face], 24, (0, 0)⟩ :: (⟨b4, [.int .i32 (0 : Int), .int .i32 (0 : Int), .int .i32 (0 : Int), .int .i32 (0 : Int), .int .u8 (0 : Int), .int .u8 (0 : Int), .int .u8 (0 : Int)], 24, (0, 0)⟩ :: []))) ?_ ?_
    · refine wc_cond rfl (fun hc => ?_) (fun hc => ?_)
      · replace h := ct hc h
        refine wc_region ?_
        refine wl_pure (v := .pointer (some ⟨b2, 5, none⟩)) tt_ok rfl rfl ?_
        apply wl_store tt_ok; rfl; exact Upd.here; rfl; rfl; rfl; rfl; rfl; rfl
        refine wl_nil ?_
        simp only [Option.some.injEq] at h
        obtain rfl := h
        exact wx_join ⟨rfl, rfl⟩ (agree_cons rfl (agree_cons rfl agree_nil)) (pSub (pCons Sel.hc (pCons Sel.hc pNil)))
      replace h := cf hc h
      refine wc_skip ?_
      simp only [Option.some.injEq] at h
      obtain rfl := h
      exact wx_join ⟨rfl, rfl⟩ (agree_cons rfl (agree_cons rfl agree_nil)) (pSub (pCons Sel.hc (pCons Sel.hc pNil)))
    rintro _ _ ⟨rfl, rfl⟩
    have h := hj38; clear hj38
    refine wc_seq ?_
    refine wc_region ?_
    refine wl_val (v := .agg #[.int .i32 j38_n2.X, .int .i32 j38_n2.Y, .int .i32 j38_n2.VX, .int .i32 j38_n2.VY, .int .u8 j38_n2.Health, .int .u8 j38_n2.Cool, .int .u8 j38_n2.Face]) (val_load tt_ok rfl (List.Mem.head _) rfl) rfl ?_
    apply wl_store tt_ok; rfl; exact (Upd.there Upd.here); rfl; rfl; rfl; rfl; rfl; rfl
    refine wl_nil ?_
    refine wx_then ?_
    refine wc_ret ?_
    simp only [Option.some.injEq] at h
    obtain rfl := h
    exact wx_pf tt_ok (.inl rfl) Tryd.results54 (Res.cell rfl (List.Mem.tail _ (List.Mem.head _)) rfl Res.nil) rfl
  replace h := cf hc h
  refine wl_skip rfl rfl ?_
  refine wl_skip rfl rfl ?_
  refine wl_skip rfl rfl ?_
  simp only [Option.some.injEq, Prod.mk.injEq] at h
  obtain rfl := h
  have h := hg38; clear hg38
  refine wl_pure (v := .bool false) tt_ok rfl rfl ?_
  refine wl_pure tt_ok rfl rfl ?_
  refine wl_nil ?_
  refine wx_then ?_
  refine wc_seq ?_
  refine wc_region ?_
  refine wl_pure (v := .pointer (some ⟨b2, 2, none⟩)) tt_ok rfl rfl ?_
  refine wl_val (v := .int .i32 j14_n2.VX) (val_load tt_ok rfl (List.Mem.head _) rfl) rfl ?_
  refine wl_pure tt_ok rfl rfl ?_
  refine wl_pure tt_ok rfl rfl ?_
  replace h := bsome h; obtain ⟨v43, x43, h⟩ := h
  refine wl_cq Tryd.call73 rfl rfl rfl (q_pf (k_hindcastref09_speed x43) (fun _ _ => trivial)) rfl ?_
  refine wl_pure (v := .pointer (some ⟨b2, 2, none⟩)) tt_ok rfl rfl ?_
  apply wl_store tt_ok; rfl; exact Upd.here; rfl; rfl; rfl; rfl; rfl; rfl
  refine wl_nil ?_
  refine wx_then ?_
  refine wc_seq ?_
  refine wc_region ?_
  refine wl_pure (v := .pointer (some ⟨b2, 3, none⟩)) tt_ok rfl rfl ?_
  refine wl_val (v := .int .i32 j14_n2.VY) (val_load tt_ok rfl (List.Mem.head _) rfl) rfl ?_
  refine wl_pure tt_ok rfl rfl ?_
  refine wl_pure tt_ok rfl rfl ?_
  replace h := bsome h; obtain ⟨v49, x49, h⟩ := h
  refine wl_cq Tryd.call73 rfl rfl rfl (q_pf (k_hindcastref09_speed x49) (fun _ _ => trivial)) rfl ?_
  refine wl_pure (v := .pointer (some ⟨b2, 3, none⟩)) tt_ok rfl rfl ?_
  apply wl_store tt_ok; rfl; exact Upd.here; rfl; rfl; rfl; rfl; rfl; rfl
  refine wl_nil ?_
  refine wx_then ?_
  refine wc_seq ?_
  refine wc_seq ?_
  refine wc_region ?_
  refine wl_pure tt_ok rfl rfl ?_
  refine wl_nil ?_
  refine wx_then ?_
  replace h := bsome h; obtain ⟨j38_n2, h, hj38⟩ := h
  refine wc_join2 (fun E L => E = [(2, .pointer (some ⟨b2, 0, none⟩)), (4, .pointer (some ⟨b4, 0, none⟩))] ∧ L = (⟨b2, [.int .i32 j38_n2.X, .int .i32 j38_n2.Y, .int .i32 j38_n2.VX, .int .i32 j38_n2.VY, .int .u8 j38_n2.Health, .int .u8 j38_n2.Cool, .int .u8 j38_n2.Face], 24, (0, 0)⟩ :: (⟨b4, [.int .i32 (0 : Int), .int .i32 (0 : Int), .int .i32 (0 : Int), .int .i32 (0 : Int), .int .u8 (0 : Int), .int .u8 (0 : Int), .int .u8 (0 : Int)], 24, (0, 0)⟩ :: []))) ?_ ?_
  · replace h := cf rfl h
    refine wc_cond_false rfl ?_
    refine wc_skip ?_
    simp only [Option.some.injEq] at h
    obtain rfl := h
    exact wx_join ⟨rfl, rfl⟩ (agree_cons rfl (agree_cons rfl agree_nil)) (pSub (pCons Sel.hc (pCons Sel.hc pNil)))
  rintro _ _ ⟨rfl, rfl⟩
  have h := hj38; clear hj38
  refine wc_seq ?_
  refine wc_region ?_
  refine wl_val (v := .agg #[.int .i32 j38_n2.X, .int .i32 j38_n2.Y, .int .i32 j38_n2.VX, .int .i32 j38_n2.VY, .int .u8 j38_n2.Health, .int .u8 j38_n2.Cool, .int .u8 j38_n2.Face]) (val_load tt_ok rfl (List.Mem.head _) rfl) rfl ?_
  apply wl_store tt_ok; rfl; exact (Upd.there Upd.here); rfl; rfl; rfl; rfl; rfl; rfl
  refine wl_nil ?_
  refine wx_then ?_
  refine wc_ret ?_
  simp only [Option.some.injEq] at h
  obtain rfl := h
  exact wx_pf tt_ok (.inl rfl) Tryd.results54 (Res.cell rfl (List.Mem.tail _ (List.Mem.head _)) rfl Res.nil) rfl

theorem k_hindcastref06_Fire {F : Nat} {p0 : Int} {r0 : Bool} (h : m_hindcastref06_Fire F p0 = some r0) :
    Pf Tryd.prog 74 [.int .u8 p0] (fun w => True) (.bool r0) := by
  unfold m_hindcastref06_Fire at h
  refine pf_of_wc Tryd.func74 rfl Tryd.ntmps74 rfl rfl (fun w0 hR => ?_)
  refine wc_seq ?_
  refine wc_region ?_
  refine wl_pure tt_ok rfl rfl ?_
  refine wl_nil ?_
  refine wx_then ?_
  refine wc_seq ?_
  refine wc_region ?_
  refine wl_pure tt_ok rfl rfl ?_
  replace h := bsome h; obtain ⟨v4, x4, h⟩ := h
  refine wl_cq Tryd.call86 rfl rfl rfl (q_pf (k_hindcastref06_bit x4) (fun _ _ => trivial)) rfl ?_
  refine wl_pure tt_ok rfl rfl ?_
  refine wl_nil ?_
  refine wx_then ?_
  refine wc_ret ?_
  simp only [Option.some.injEq] at h
  obtain rfl := h
  exact wx_pf tt_ok (.inl rfl) Tryd.results74 (Res.tmp rfl Res.nil) rfl

theorem k_hindcastref09_two_o0 {F : Nat} {p0 : T_api_State} {p0a0 : Option Addr} {p0n0 p0c0 : Nat} {p0B0 : List Blk} {p1 : (Int × Int)} {r0 : T_api_State} (p0N0 : p0n0 = p0.Shots.length) (p0V0 : Own 66 6 p0a0 p0n0 p0c0 (flat c_T_api_Shot p0.Shots) p0B0) (h : m_hindcastref09_two_o0 F p0 p1 = some r0) :
    SpD Tryd.prog 55 [.agg #[.int .u64 p0.Frame, .int .u64 p0.Seed, .int .i32 p0.Players.1.X, .int .i32 p0.Players.1.Y, .int .i32 p0.Players.1.VX, .int .i32 p0.Players.1.VY, .int .u8 p0.Players.1.Health, .int .u8 p0.Players.1.Cool, .int .u8 p0.Players.1.Face, .int .i32 p0.Players.2.X, .int .i32 p0.Players.2.Y, .int .i32 p0.Players.2.VX, .int .i32 p0.Players.2.VY, .int .u8 p0.Players.2.Health, .int .u8 p0.Players.2.Cool, .int .u8 p0.Players.2.Face, .slice p0a0 p0n0 p0c0, .int .u16 p0.Score.1, .int .u16 p0.Score.2], .agg #[.int .u8 p1.1, .int .u8 p1.2]] (p0B0 ++ []) (fun w => True) (fun v D => ∃ (r0a0 : Option Addr) (r0n0 r0c0 : Nat) (r0B0 : List Blk), r0n0 = r0.Shots.length ∧ Own 66 6 r0a0 r0n0 r0c0 (flat c_T_api_Shot r0.Shots) r0B0 ∧ v = .agg #[.int .u64 r0.Frame, .int .u64 r0.Seed, .int .i32 r0.Players.1.X, .int .i32 r0.Players.1.Y, .int .i32 r0.Players.1.VX, .int .i32 r0.Players.1.VY, .int .u8 r0.Players.1.Health, .int .u8 r0.Players.1.Cool, .int .u8 r0.Players.1.Face, .int .i32 r0.Players.2.X, .int .i32 r0.Players.2.Y, .int .i32 r0.Players.2.VX, .int .i32 r0.Players.2.VY, .int .u8 r0.Players.2.Health, .int .u8 r0.Players.2.Cool, .int .u8 r0.Players.2.Face, .slice r0a0 r0n0 r0c0, .int .u16 r0.Score.1, .int .u16 r0.Score.2] ∧ D = fun F => (r0B0 ++ F)) := by
  unfold m_hindcastref09_two_o0 at h
  refine sp_of_wc Tryd.func55 rfl Tryd.ntmps55 rfl rfl (fun w0 hR => ?_)
  refine wc_seq ?_
  refine wc_region ?_
  refine wl_box rfl rfl rfl (fun b2 => ?_)
  refine wl_box rfl rfl rfl (fun b3 => ?_)
  refine wl_alloc tt_ok rfl rfl (fun b4 => ?_)
  refine wl_nil ?_
  refine wx_then ?_
  refine wc_seq ?_
  refine wc_seq ?_
  refine wc_region ?_
  refine wl_pure tt_ok rfl rfl ?_
  refine wl_nil ?_
  refine wx_then ?_
  refine wc_block ?_
  replace h := bsome h; obtain ⟨⟨l7_n2_f2, l7_n2_f3⟩, h, hl7⟩ := h; try dsimp only at hl7
  refine wc_loop (fun m E L => ∃ (j7_5 : Int) (j7_n2_f2 : (T_api_Player × T_api_Player)) (j7_n2_f3 : (List T_api_Shot)) (j7_n2_f3a0 : Option Addr) (j7_n2_f3n0 : Nat) (j7_n2_f3c0 : Nat) (j7_n2_f3B0 : List Blk), m_hindcastref09_two_o0_L6 F p1 m j7_5 j7_n2_f2 j7_n2_f3 = some (l7_n2_f2, l7_n2_f3) ∧ j7_n2_f3n0 = j7_n2_f3.length ∧ Own 66 6 j7_n2_f3a0 j7_n2_f3n0 j7_n2_f3c0 (flat c_T_api_Shot j7_n2_f3) j7_n2_f3B0 ∧ E = [(2, .pointer (some ⟨b2, 0, none⟩)), (3, .pointer (some ⟨b3, 0, none⟩)), (4, .pointer (some ⟨b4, 0, none⟩)), (5, .int .i64 j7_5)] ∧ L = (⟨b2, [.int .u64 p0.Frame, .int .u64 p0.Seed, .int .i32 j7_n2_f2.1.X, .int .i32 j7_n2_f2.1.Y, .int .i32 j7_n2_f2.1.VX, .int .i32 j7_n2_f2.1.VY, .int .u8 j7_n2_f2.1.Health, .int .u8 j7_n2_f2.1.Cool, .int .u8 j7_n2_f2.1.Face, .int .i32 j7_n2_f2.2.X, .int .i32 j7_n2_f2.2.Y, .int .i32 j7_n2_f2.2.VX, .int .i32 j7_n2_f2.2.VY, .int .u8 j7_n2_f2.2.Health, .int .u8 j7_n2_f2.2.Cool, .int .u8 j7_n2_f2.2.Face, .slice j7_n2_f3a0 j7_n2_f3n0 j7_n2_f3c0, .int .u16 p0.Score.1, .int .u16 p0.Score.2], 30, (0, 0)⟩ :: (⟨b3, [.int .u8 p1.1, .int .u8 p1.2], 39, (0, 0)⟩ :: (⟨b4, [.int .u64 (0 : Int), .int .u64 (0 : Int), .int .i32 (0 : Int), .int .i32 (0 : Int), .int .i32 (0 : Int), .int .i32 (0 : Int), .int .u8 (0 : Int), .int .u8 (0 : Int), .int .u8 (0 : Int), .int .i32 (0 : Int), .int .i32 (0 : Int), .int .i32 (0 : Int), .int .i32 (0 : Int), .int .u8 (0 : Int), .int .u8 (0 : Int), .int .u8 (0 : Int), .slice none 0 0, .int .u16 (0 : Int), .int .u16 (0 : Int)], 30, (0, 0)⟩ :: (j7_n2_f3B0 ++ []))))) F ⟨(0 : Int), p0.Players, p0.Shots, p0a0, p0n0, p0c0, p0B0, h, p0N0, p0V0, rfl, rfl⟩ (agree_cons rfl (agree_cons rfl (agree_cons rfl (agree_cons rfl agree_nil)))) (pSub (pCons (Sel.sc (Sel.sc Sel.hc)) (pCons (Sel.sc Sel.hc) (pCons Sel.hc (pApp Sel.ha pNil))))) ?_
  clear h
  rintro m7 _ _ ⟨j7_5, j7_n2_f2, j7_n2_f3, j7_n2_f3a0, j7_n2_f3n0, j7_n2_f3c0, j7_n2_f3B0, h, j7_n2_f3N0, j7_n2_f3V0, rfl, rfl⟩
  rcases m7 with _ | m7
  · rw [m_hindcastref09_two_o0_L6.eq_1] at h; cases h
  rw [m_hindcastref09_two_o0_L6.eq_2] at h
  refine wc_seq ?_
  refine wc_seq ?_
  refine wc_region ?_
  refine wl_pure tt_ok rfl rfl ?_
  refine wl_pure (v := .bool (decide (j7_5 < (2 : Int)))) tt_ok rfl rfl ?_
  refine wl_nil ?_
  refine wx_then ?_
  refine wc_cond rfl (fun hc => ?_) (fun hc => ?_)
  · replace h := ct hc h
    refine wc_skip ?_
    refine wx_then ?_
    refine wc_seq ?_
    refine wc_block ?_
    refine wc_seq ?_
    refine wc_region ?_
    refine wl_pure tt_ok rfl rfl ?_
    refine wl_pure (v := .pointer (some ⟨b2, 2, none⟩)) tt_ok rfl rfl ?_
    rcases Bool.eq_false_or_eq_true (j7_5 == (0 : Int)) with hx140 | hx140
    · replace h := ct hx140 h
      refine wl_val (v := .pointer (some ⟨b2, 2, none⟩)) (val_ia (j := 0) tt_ok rfl rfl rfl rfl (by simpa using hx140) rfl rfl) rfl ?_
      refine wl_val (v := .agg #[.int .i32 j7_n2_f2.1.X, .int .i32 j7_n2_f2.1.Y, .int .i32 j7_n2_f2.1.VX, .int .i32 j7_n2_f2.1.VY, .int .u8 j7_n2_f2.1.Health, .int .u8 j7_n2_f2.1.Cool, .int .u8 j7_n2_f2.1.Face]) (val_load tt_ok rfl (List.Mem.head _) rfl) rfl ?_
      refine wl_alloc tt_ok rfl rfl (fun b6 => ?_)
      apply wl_store tt_ok; rfl; exact Upd.here; rfl; rfl; rfl; rfl; rfl; rfl
      refine wl_nil ?_
      refine wx_then ?_
      refine wc_seq ?_
      refine wc_seq ?_
      refine wc_region ?_
      refine wl_pure tt_ok rfl rfl ?_
      refine wl_val (v := .pointer (some ⟨b3, 0, none⟩)) (val_ia (j := 0) tt_ok rfl rfl rfl rfl (by simpa using hx140) rfl rfl) rfl ?_
      refine wl_val (v := .int .u8 p1.1) (val_load tt_ok rfl (List.Mem.tail _ (List.Mem.tail _ (List.Mem.head _))) rfl) rfl ?_
      replace h := bsome h; obtain ⟨v19, x19, h⟩ := h
      refine wl_cq Tryd.call74 rfl rfl rfl (q_pf (k_hindcastref06_Fire x19) (fun _ _ => trivial)) rfl ?_
      refine wl_pure (v := .bool (!v19)) tt_ok rfl rfl ?_
      refine wl_pure tt_ok rfl rfl ?_
      replace h := bsome h; obtain ⟨v25, h, hg25⟩ := h
      refine wl_split (t := 21) rfl (fun hc => ?_) (fun hc => ?_)
      · replace h := ct hc h
        refine wl_skip rfl rfl ?_
        refine wl_skip rfl rfl ?_
        refine wl_skip rfl rfl ?_
        simp only [Option.some.injEq, Prod.mk.injEq] at h
        obtain rfl := h
        have h := hg25; clear hg25
        refine wl_pure (v := .bool true) tt_ok rfl rfl ?_
        refine wl_pure tt_ok rfl rfl ?_
        replace h := bsome h; obtain ⟨v31, h, hg31⟩ := h
        replace h := ct rfl h
        refine wl_skip rfl rfl ?_
        refine wl_skip rfl rfl ?_
        refine wl_skip rfl rfl ?_
        refine wl_skip rfl rfl ?_
        simp only [Option.some.injEq, Prod.mk.injEq] at h
        obtain rfl := h
        have h := hg31; clear hg31
        refine wl_pure (v := .bool true) tt_ok rfl rfl ?_
        refine wl_nil ?_
        refine wx_then ?_
        replace h := ct rfl h
        refine wc_cond_true rfl ?_
        refine wc_exit ?_
        refine wx_then_exit ?_
        refine wx_block_exit ?_
        refine wx_then ?_
        refine wc_region ?_
        refine wl_pure tt_ok rfl rfl ?_
        refine wl_pure (v := .int .i64 (IntKind.wrap .i64 (j7_5 + (1 : Int)))) tt_ok rfl rfl ?_
        refine wl_pure tt_ok rfl rfl ?_
        refine wl_nil ?_
        exact wx_round m7 (Nat.lt_succ_self m7) ⟨(IntKind.wrap .i64 (j7_5 + (1 : Int))), j7_n2_f2, j7_n2_f3, j7_n2_f3a0, j7_n2_f3n0, j7_n2_f3c0, j7_n2_f3B0, h, j7_n2_f3N0, j7_n2_f3V0, rfl, rfl⟩ (agree_cons rfl (agree_cons rfl (agree_cons rfl (agree_cons rfl agree_nil)))) (pSub (pCons (Sel.sc Sel.hc) (pCons (Sel.sc Sel.hc) (pCons (Sel.sc Sel.hc) (pApp (Sel.sc Sel.ha) pNil)))))
      replace h := cf hc h
      refine wl_run rfl ?_
      refine wl_pure (v := .pointer (some ⟨b6, 5, none⟩)) tt_ok rfl rfl ?_
      refine wl_run rfl ?_
      refine wl_val (v := .int .u8 j7_n2_f2.1.Cool) (val_load tt_ok rfl (List.Mem.head _) rfl) rfl ?_
      refine wl_run rfl ?_
      refine wl_pure (v := .bool (j7_n2_f2.1.Cool != (0 : Int))) tt_ok rfl rfl ?_
      simp only [Option.some.injEq, Prod.mk.injEq] at h
      obtain rfl := h
      have h := hg25; clear hg25
      refine wl_pure (v := .bool (j7_n2_f2.1.Cool != (0 : Int))) tt_ok rfl rfl ?_
      refine wl_pure tt_ok rfl rfl ?_
      replace h := bsome h; obtain ⟨v31, h, hg31⟩ := h
      refine wl_split (t := 26) rfl (fun hc => ?_) (fun hc => ?_)
      · replace h := ct hc h
        refine wl_skip rfl rfl ?_
        refine wl_skip rfl rfl ?_
        refine wl_skip rfl rfl ?_
        refine wl_skip rfl rfl ?_
        simp only [Option.some.injEq, Prod.mk.injEq] at h
        obtain rfl := h
        have h := hg31; clear hg31
        refine wl_pure (v := .bool true) tt_ok rfl rfl ?_
        refine wl_nil ?_
        refine wx_then ?_
        replace h := ct rfl h
        refine wc_cond_true rfl ?_
        refine wc_exit ?_
        refine wx_then_exit ?_
        refine wx_block_exit ?_
        refine wx_then ?_
        refine wc_region ?_
        refine wl_pure tt_ok rfl rfl ?_
        refine wl_pure (v := .int .i64 (IntKind.wrap .i64 (j7_5 + (1 : Int)))) tt_ok rfl rfl ?_
        refine wl_pure tt_ok rfl rfl ?_
        refine wl_nil ?_
        exact wx_round m7 (Nat.lt_succ_self m7) ⟨(IntKind.wrap .i64 (j7_5 + (1 : Int))), j7_n2_f2, j7_n2_f3, j7_n2_f3a0, j7_n2_f3n0, j7_n2_f3c0, j7_n2_f3B0, h, j7_n2_f3N0, j7_n2_f3V0, rfl, rfl⟩ (agree_cons rfl (agree_cons rfl (agree_cons rfl (agree_cons rfl agree_nil)))) (pSub (pCons (Sel.sc Sel.hc) (pCons (Sel.sc Sel.hc) (pCons (Sel.sc Sel.hc) (pApp (Sel.sc Sel.ha) pNil)))))
      replace h := cf hc h
      refine wl_run rfl ?_
      refine wl_pure (v := .pointer (some ⟨b2, 16, none⟩)) tt_ok rfl rfl ?_
      refine wl_run rfl ?_
      refine wl_val (v := .slice j7_n2_f3a0 j7_n2_f3n0 j7_n2_f3c0) (val_load tt_ok rfl (List.Mem.tail _ (List.Mem.head _)) rfl) rfl ?_
      refine wl_run rfl ?_
      refine wl_val (v := .int .i64 (j7_n2_f3.length : Int)) (val_len tt_ok rfl rfl j7_n2_f3N0) rfl ?_
      refine wl_run rfl ?_
      refine wl_pure (v := .bool (decide ((8 : Int) ≤ (j7_n2_f3.length : Int)))) tt_ok rfl rfl ?_
      simp only [Option.some.injEq, Prod.mk.injEq] at h
      obtain rfl := h
      have h := hg31; clear hg31
      refine wl_pure (v := .bool (decide ((8 : Int) ≤ (j7_n2_f3.length : Int)))) tt_ok rfl rfl ?_
      refine wl_nil ?_
      refine wx_then ?_
      refine wc_cond rfl (fun hc => ?_) (fun hc => ?_)
      · replace h := ct hc h
        refine wc_exit ?_
        refine wx_then_exit ?_
        refine wx_block_exit ?_
        refine wx_then ?_
        refine wc_region ?_
        refine wl_pure tt_ok rfl rfl ?_
        refine wl_pure (v := .int .i64 (IntKind.wrap .i64 (j7_5 + (1 : Int)))) tt_ok rfl rfl ?_
        refine wl_pure tt_ok rfl rfl ?_
        refine wl_nil ?_
        exact wx_round m7 (Nat.lt_succ_self m7) ⟨(IntKind.wrap .i64 (j7_5 + (1 : Int))), j7_n2_f2, j7_n2_f3, j7_n2_f3a0, j7_n2_f3n0, j7_n2_f3c0, j7_n2_f3B0, h, j7_n2_f3N0, j7_n2_f3V0, rfl, rfl⟩ (agree_cons rfl (agree_cons rfl (agree_cons rfl (agree_cons rfl agree_nil)))) (pSub (pCons (Sel.sc Sel.hc) (pCons (Sel.sc Sel.hc) (pCons (Sel.sc Sel.hc) (pApp (Sel.sc Sel.ha) pNil)))))
      replace h := cf hc h
      refine wc_skip ?_
      refine wx_then ?_
      refine wc_seq ?_
      refine wc_region ?_
      refine wl_pure (v := .pointer (some ⟨b6, 0, none⟩)) tt_ok rfl rfl ?_
      refine wl_val (v := .int .i32 j7_n2_f2.1.X) (val_load tt_ok rfl (List.Mem.head _) rfl) rfl ?_
      refine wl_pure (v := .int .i32 (IntKind.wrap .i32 (j7_n2_f2.1.X + (1792 : Int)))) tt_ok rfl rfl ?_
      refine wl_pure (v := .pointer (some ⟨b6, 1, none⟩)) tt_ok rfl rfl ?_
      refine wl_val (v := .int .i32 j7_n2_f2.1.Y) (val_load tt_ok rfl (List.Mem.head _) rfl) rfl ?_
      refine wl_pure (v := .int .i32 (IntKind.wrap .i32 (j7_n2_f2.1.Y + (1792 : Int)))) tt_ok rfl rfl ?_
      refine wl_pure tt_ok rfl rfl ?_
      refine wl_pure (v := .int .u8 (IntKind.wrap .u8 j7_5)) tt_ok rfl rfl ?_
      refine wl_pure (v := .agg #[.int .i32 (IntKind.wrap .i32 (j7_n2_f2.1.X + (1792 : Int))), .int .i32 (IntKind.wrap .i32 (j7_n2_f2.1.Y + (1792 : Int))), .int .i32 (0 : Int), .int .i32 (0 : Int), .int .u8 (IntKind.wrap .u8 j7_5), .int .u8 (40 : Int)]) tt_ok rfl rfl ?_
      refine wl_alloc tt_ok rfl rfl (fun b7 => ?_)
      apply wl_store tt_ok; rfl; exact Upd.here; rfl; rfl; rfl; rfl; rfl; rfl
      refine wl_nil ?_
      refine wx_then ?_
      refine wc_seq ?_
      refine wc_region ?_
      refine wl_chg (chg_bsv (enc := (e1 .i32)) (xs := ([(2048 : Int), (-2048 : Int), (0 : Int), (0 : Int)] : List Int)) tt_ok rfl rfl rfl rfl rfl rfl rfl rfl (e1_len _)) rfl ?_
      rintro _ _ ⟨a41, n41_, c41, B41, rfl, N41, V41, rfl⟩
      refine wl_pure (v := .pointer (some ⟨b6, 6, none⟩)) tt_ok rfl rfl ?_
      refine wl_val (v := .int .u8 j7_n2_f2.1.Face) (val_load tt_ok rfl (mR (List.Mem.tail _ (List.Mem.head _))) rfl) rfl ?_
      replace h := bsome h; obtain ⟨v44, x44, h⟩ := h
      refine wl_val (v := .pointer (some ((adOf a41).add (j7_n2_f2.1.Face.toNat * 1 + 0)))) (val_ix (enc := (e1 .i32)) tt_ok rfl rfl rfl rfl N41 (Rds.of_vec V41) (e1_len _) rfl x44) rfl ?_
      refine wl_val (v := .int .i32 v44) (val_le (enc := (e1 .i32)) (xs := ([(2048 : Int), (-2048 : Int), (0 : Int), (0 : Int)] : List Int)) tt_ok rfl (Rds.of_vec V41) ⟨_, Sel.ha⟩ (e1_len _) x44 rfl) rfl ?_
      refine wl_pure (v := .pointer (some ⟨b7, 2, none⟩)) tt_ok rfl rfl ?_
      apply wl_store tt_ok; rfl; exact (Upd.right Upd.here); rfl; rfl; rfl; rfl; rfl; rfl
      refine wl_nil ?_
      refine wx_then ?_
      refine wc_seq ?_
      refine wc_region ?_
      refine wl_chg (chg_bsv (enc := (e1 .i32)) (xs := ([(0 : Int), (0 : Int), (-2048 : Int), (2048 : Int)] : List Int)) tt_ok rfl rfl rfl rfl rfl rfl rfl rfl (e1_len _)) rfl ?_
      rintro _ _ ⟨a47, n47_, c47, B47, rfl, N47, V47, rfl⟩
      refine wl_pure (v := .pointer (some ⟨b6, 6, none⟩)) tt_ok rfl rfl ?_
      refine wl_val (v := .int .u8 j7_n2_f2.1.Face) (val_load tt_ok rfl (mR (mR (List.Mem.tail _ (List.Mem.head _)))) rfl) rfl ?_
      replace h := bsome h; obtain ⟨v50, x50, h⟩ := h
      refine wl_val (v := .pointer (some ((adOf a47).add (j7_n2_f2.1.Face.toNat * 1 + 0)))) (val_ix (enc := (e1 .i32)) tt_ok rfl rfl rfl rfl N47 (Rds.of_vec V47) (e1_len _) rfl x50) rfl ?_
      refine wl_val (v := .int .i32 v50) (val_le (enc := (e1 .i32)) (xs := ([(0 : Int), (0 : Int), (-2048 : Int), (2048 : Int)] : List Int)) tt_ok rfl (Rds.of_vec V47) ⟨_, Sel.ha⟩ (e1_len _) x50 rfl) rfl ?_
      refine wl_pure (v := .pointer (some ⟨b7, 3, none⟩)) tt_ok rfl rfl ?_
      apply wl_store tt_ok; rfl; exact (Upd.right (Upd.right Upd.here)); rfl; rfl; rfl; rfl; rfl; rfl
      refine wl_nil ?_
      refine wx_then ?_
      refine wc_seq ?_
      refine wc_region ?_
      refine wl_pure (v := .pointer (some ⟨b2, 16, none⟩)) tt_ok rfl rfl ?_
      refine wl_val (v := .slice j7_n2_f3a0 j7_n2_f3n0 j7_n2_f3c0) (val_load tt_ok rfl (mR (mR (List.Mem.tail _ (List.Mem.tail _ (List.Mem.head _))))) rfl) rfl ?_
      refine wl_val (v := .agg #[.int .i32 (IntKind.wrap .i32 (j7_n2_f2.1.X + (1792 : Int))), .int .i32 (IntKind.wrap .i32 (j7_n2_f2.1.Y + (1792 : Int))), .int .i32 v44, .int .i32 v50, .int .u8 (IntKind.wrap .u8 j7_5), .int .u8 (40 : Int)]) (val_load tt_ok rfl (mR (mR (List.Mem.head _))) rfl) rfl ?_
      refine wl_chg (chg_bsv (enc := c_T_api_Shot) (xs := ([(T_api_Shot.mk (IntKind.wrap .i32 (j7_n2_f2.1.X + (1792 : Int))) (IntKind.wrap .i32 (j7_n2_f2.1.Y + (1792 : Int))) v44 v50 (IntKind.wrap .u8 j7_5) (40 : Int))] : List T_api_Shot)) tt_ok rfl rfl rfl rfl rfl rfl rfl rfl c_T_api_Shot_len) rfl ?_
      rintro _ _ ⟨a56, n56_, c56, B56, rfl, N56, V56, rfl⟩
      replace h := bsome h; obtain ⟨v57, x57, h⟩ := h
      refine wl_chg (chg_app (enc := c_T_api_Shot) (ys := ([(T_api_Shot.mk (IntKind.wrap .i32 (j7_n2_f2.1.X + (1792 : Int))) (IntKind.wrap .i32 (j7_n2_f2.1.Y + (1792 : Int))) v44 v50 (IntKind.wrap .u8 j7_5) (40 : Int))] : List T_api_Shot)) tt_ok rfl rfl rfl rfl rfl rfl j7_n2_f3N0 N56 j7_n2_f3V0 (Sel.sa (Sel.sa (Sel.sa (Sel.sc (Sel.sc (Sel.sc (Sel.sc (Sel.sc Sel.ha)))))))) (Rds.of_vec V56) ⟨_, Sel.ha⟩ c_T_api_Shot_len (fun _ => rfl) rfl x57) rfl ?_
      rintro _ _ ⟨a57, n57_, c57, B57, rfl, N57, V57, rfl⟩
      refine wl_pure (v := .pointer (some ⟨b2, 16, none⟩)) tt_ok rfl rfl ?_
      apply wl_store tt_ok; rfl; exact (Upd.right (Upd.right (Upd.right (Upd.right (Upd.there (Upd.there Upd.here)))))); rfl; rfl; rfl; rfl; rfl; rfl
      refine wl_nil ?_
      refine wx_then ?_
      refine wc_region ?_
      refine wl_pure tt_ok rfl rfl ?_
      refine wl_pure (v := .pointer (some ⟨b2, 2, none⟩)) tt_ok rfl rfl ?_
      refine wl_val (v := .pointer (some ⟨b2, 2, none⟩)) (val_ia (j := 0) tt_ok rfl rfl rfl rfl (by simpa using hx140) rfl rfl) rfl ?_
      refine wl_pure (v := .pointer (some ⟨b2, 7, none⟩)) tt_ok rfl rfl ?_
      apply wl_store tt_ok; rfl; exact (Upd.right (Upd.right (Upd.right (Upd.right (Upd.there (Upd.there Upd.here)))))); rfl; rfl; rfl; rfl; rfl; rfl
      refine wl_nil ?_
      refine wx_block ?_
      refine wx_then ?_
      refine wc_region ?_
      refine wl_pure tt_ok rfl rfl ?_
      refine wl_pure (v := .int .i64 (IntKind.wrap .i64 (j7_5 + (1 : Int)))) tt_ok rfl rfl ?_
      refine wl_pure tt_ok rfl rfl ?_
      refine wl_nil ?_
      exact wx_round m7 (Nat.lt_succ_self m7) ⟨(IntKind.wrap .i64 (j7_5 + (1 : Int))), ((T_api_Player.mk j7_n2_f2.1.X j7_n2_f2.1.Y j7_n2_f2.1.VX j7_n2_f2.1.VY j7_n2_f2.1.Health (10 : Int) j7_n2_f2.1.Face), j7_n2_f2.2), v57, a57, n57_, c57, B57, h, N57, V57, rfl, rfl⟩ (agree_cons rfl (agree_cons rfl (agree_cons rfl (agree_cons rfl agree_nil)))) (pSub (pCons (Sel.sa (Sel.sa (Sel.sa (Sel.sa (Sel.sc (Sel.sc Sel.hc)))))) (pCons (Sel.sa (Sel.sa (Sel.sa (Sel.sa (Sel.sc (Sel.sc Sel.hc)))))) (pCons (Sel.sa (Sel.sa (Sel.sa (Sel.sa (Sel.sc (Sel.sc Sel.hc)))))) (pApp Sel.ha pNil)))))
    replace h := cf hx140 h
    rcases Bool.eq_false_or_eq_true (j7_5 == (1 : Int)) with hx141 | hx141
    · replace h := ct hx141 h
      refine wl_val (v := .pointer (some ⟨b2, 9, none⟩)) (val_ia (j := 1) tt_ok rfl rfl rfl rfl (by simpa using hx141) rfl rfl) rfl ?_
      refine wl_val (v := .agg #[.int .i32 j7_n2_f2.2.X, .int .i32 j7_n2_f2.2.Y, .int .i32 j7_n2_f2.2.VX, .int .i32 j7_n2_f2.2.VY, .int .u8 j7_n2_f2.2.Health, .int .u8 j7_n2_f2.2.Cool, .int .u8 j7_n2_f2.2.Face]) (val_load tt_ok rfl (List.Mem.head _) rfl) rfl ?_
      refine wl_alloc tt_ok rfl rfl (fun b6 => ?_)
      apply wl_store tt_ok; rfl; exact Upd.here; rfl; rfl; rfl; rfl; rfl; rfl
      refine wl_nil ?_
      refine wx_then ?_
      refine wc_seq ?_
      refine wc_seq ?_
      refine wc_region ?_
      refine wl_pure tt_ok rfl rfl ?_
      refine wl_val (v := .pointer (some ⟨b3, 1, none⟩)) (val_ia (j := 1) tt_ok rfl rfl rfl rfl (by simpa using hx141) rfl rfl) rfl ?_
      refine wl_val (v := .int .u8 p1.2) (val_load tt_ok rfl (List.Mem.tail _ (List.Mem.tail _ (List.Mem.head _))) rfl) rfl ?_
      replace h := bsome h; obtain ⟨v19, x19, h⟩ := h
      refine wl_cq Tryd.call74 rfl rfl rfl (q_pf (k_hindcastref06_Fire x19) (fun _ _ => trivial)) rfl ?_
      refine wl_pure (v := .bool (!v19)) tt_ok rfl rfl ?_
      refine wl_pure tt_ok rfl rfl ?_
      replace h := bsome h; obtain ⟨v25, h, hg25⟩ := h
      refine wl_split (t := 21) rfl (fun hc => ?_) (fun hc => ?_)
      · replace h := ct hc h
        refine wl_skip rfl rfl ?_
        refine wl_skip rfl rfl ?_
        refine wl_skip rfl rfl ?_
        simp only [Option.some.injEq, Prod.mk.injEq] at h
        obtain rfl := h
        have h := hg25; clear hg25
        refine wl_pure (v := .bool true) tt_ok rfl rfl ?_
        refine wl_pure tt_ok rfl rfl ?_
        replace h := bsome h; obtain ⟨v31, h, hg31⟩ := h
        replace h := ct rfl h
        refine wl_skip rfl rfl ?_
        refine wl_skip rfl rfl ?_
        refine wl_skip rfl rfl ?_
        refine wl_skip rfl rfl ?_
        simp only [Option.some.injEq, Prod.mk.injEq] at h
        obtain rfl := h
        have h := hg31; clear hg31
        refine wl_pure (v := .bool true) tt_ok rfl rfl ?_
        refine wl_nil ?_
        refine wx_then ?_
        replace h := ct rfl h
        refine wc_cond_true rfl ?_
        refine wc_exit ?_
        refine wx_then_exit ?_
        refine wx_block_exit ?_
        refine wx_then ?_
        refine wc_region ?_
        refine wl_pure tt_ok rfl rfl ?_
        refine wl_pure (v := .int .i64 (IntKind.wrap .i64 (j7_5 + (1 : Int)))) tt_ok rfl rfl ?_
        refine wl_pure tt_ok rfl rfl ?_
        refine wl_nil ?_
        exact wx_round m7 (Nat.lt_succ_self m7) ⟨(IntKind.wrap .i64 (j7_5 + (1 : Int))), j7_n2_f2, j7_n2_f3, j7_n2_f3a0, j7_n2_f3n0, j7_n2_f3c0, j7_n2_f3B0, h, j7_n2_f3N0, j7_n2_f3V0, rfl, rfl⟩ (agree_cons rfl (agree_cons rfl (agree_cons rfl (agree_cons rfl agree_nil)))) (pSub (pCons (Sel.sc Sel.hc) (pCons (Sel.sc Sel.hc) (pCons (Sel.sc Sel.hc) (pApp (Sel.sc Sel.ha) pNil)))))
      replace h := cf hc h
      refine wl_run rfl ?_
      refine wl_pure (v := .pointer (some ⟨b6, 5, none⟩)) tt_ok rfl rfl ?_
      refine wl_run rfl ?_
      refine wl_val (v := .int .u8 j7_n2_f2.2.Cool) (val_load tt_ok rfl (List.Mem.head _) rfl) rfl ?_
      refine wl_run rfl ?_
      refine wl_pure (v := .bool (j7_n2_f2.2.Cool != (0 : Int))) tt_ok rfl rfl ?_
      simp only [Option.some.injEq, Prod.mk.injEq] at h
      obtain rfl := h
      have h := hg25; clear hg25
      refine wl_pure (v := .bool (j7_n2_f2.2.Cool != (0 : Int))) tt_ok rfl rfl ?_
      refine wl_pure tt_ok rfl rfl ?_
      replace h := bsome h; obtain ⟨v31, h, hg31⟩ := h
      refine wl_split (t := 26) rfl (fun hc => ?_) (fun hc => ?_)
      · replace h := ct hc h
        refine wl_skip rfl rfl ?_
        refine wl_skip rfl rfl ?_
        refine wl_skip rfl rfl ?_
        refine wl_skip rfl rfl ?_
        simp only [Option.some.injEq, Prod.mk.injEq] at h
        obtain rfl := h
        have h := hg31; clear hg31
        refine wl_pure (v := .bool true) tt_ok rfl rfl ?_
        refine wl_nil ?_
        refine wx_then ?_
        replace h := ct rfl h
        refine wc_cond_true rfl ?_
        refine wc_exit ?_
        refine wx_then_exit ?_
        refine wx_block_exit ?_
        refine wx_then ?_
        refine wc_region ?_
        refine wl_pure tt_ok rfl rfl ?_
        refine wl_pure (v := .int .i64 (IntKind.wrap .i64 (j7_5 + (1 : Int)))) tt_ok rfl rfl ?_
        refine wl_pure tt_ok rfl rfl ?_
        refine wl_nil ?_
        exact wx_round m7 (Nat.lt_succ_self m7) ⟨(IntKind.wrap .i64 (j7_5 + (1 : Int))), j7_n2_f2, j7_n2_f3, j7_n2_f3a0, j7_n2_f3n0, j7_n2_f3c0, j7_n2_f3B0, h, j7_n2_f3N0, j7_n2_f3V0, rfl, rfl⟩ (agree_cons rfl (agree_cons rfl (agree_cons rfl (agree_cons rfl agree_nil)))) (pSub (pCons (Sel.sc Sel.hc) (pCons (Sel.sc Sel.hc) (pCons (Sel.sc Sel.hc) (pApp (Sel.sc Sel.ha) pNil)))))
      replace h := cf hc h
      refine wl_run rfl ?_
      refine wl_pure (v := .pointer (some ⟨b2, 16, none⟩)) tt_ok rfl rfl ?_
      refine wl_run rfl ?_
      refine wl_val (v := .slice j7_n2_f3a0 j7_n2_f3n0 j7_n2_f3c0) (val_load tt_ok rfl (List.Mem.tail _ (List.Mem.head _)) rfl) rfl ?_
      refine wl_run rfl ?_
      refine wl_val (v := .int .i64 (j7_n2_f3.length : Int)) (val_len tt_ok rfl rfl j7_n2_f3N0) rfl ?_
      refine wl_run rfl ?_
      refine wl_pure (v := .bool (decide ((8 : Int) ≤ (j7_n2_f3.length : Int)))) tt_ok rfl rfl ?_
      simp only [Option.some.injEq, Prod.mk.injEq] at h
      obtain rfl := h
      have h := hg31; clear hg31
      refine wl_pure (v := .bool (decide ((8 : Int) ≤ (j7_n2_f3.length : Int)))) tt_ok rfl rfl ?_
      refine wl_nil ?_
      refine wx_then ?_
      refine wc_cond rfl (fun hc => ?_) (fun hc => ?_)
      · replace h := ct hc h
        refine wc_exit ?_
        refine wx_then_exit ?_
        refine wx_block_exit ?_
        refine wx_then ?_
        refine wc_region ?_
        refine wl_pure tt_ok rfl rfl ?_
        refine wl_pure (v := .int .i64 (IntKind.wrap .i64 (j7_5 + (1 : Int)))) tt_ok rfl rfl ?_
        refine wl_pure tt_ok rfl rfl ?_
        refine wl_nil ?_
        exact wx_round m7 (Nat.lt_succ_self m7) ⟨(IntKind.wrap .i64 (j7_5 + (1 : Int))), j7_n2_f2, j7_n2_f3, j7_n2_f3a0, j7_n2_f3n0, j7_n2_f3c0, j7_n2_f3B0, h, j7_n2_f3N0, j7_n2_f3V0, rfl, rfl⟩ (agree_cons rfl (agree_cons rfl (agree_cons rfl (agree_cons rfl agree_nil)))) (pSub (pCons (Sel.sc Sel.hc) (pCons (Sel.sc Sel.hc) (pCons (Sel.sc Sel.hc) (pApp (Sel.sc Sel.ha) pNil)))))
      replace h := cf hc h
      refine wc_skip ?_
      refine wx_then ?_
      refine wc_seq ?_
      refine wc_region ?_
      refine wl_pure (v := .pointer (some ⟨b6, 0, none⟩)) tt_ok rfl rfl ?_
      refine wl_val (v := .int .i32 j7_n2_f2.2.X) (val_load tt_ok rfl (List.Mem.head _) rfl) rfl ?_
      refine wl_pure (v := .int .i32 (IntKind.wrap .i32 (j7_n2_f2.2.X + (1792 : Int)))) tt_ok rfl rfl ?_
      refine wl_pure (v := .pointer (some ⟨b6, 1, none⟩)) tt_ok rfl rfl ?_
      refine wl_val (v := .int .i32 j7_n2_f2.2.Y) (val_load tt_ok rfl (List.Mem.head _) rfl) rfl ?_
      refine wl_pure (v := .int .i32 (IntKind.wrap .i32 (j7_n2_f2.2.Y + (1792 : Int)))) tt_ok rfl rfl ?_
      refine wl_pure tt_ok rfl rfl ?_
      refine wl_pure (v := .int .u8 (IntKind.wrap .u8 j7_5)) tt_ok rfl rfl ?_
      refine wl_pure (v := .agg #[.int .i32 (IntKind.wrap .i32 (j7_n2_f2.2.X + (1792 : Int))), .int .i32 (IntKind.wrap .i32 (j7_n2_f2.2.Y + (1792 : Int))), .int .i32 (0 : Int), .int .i32 (0 : Int), .int .u8 (IntKind.wrap .u8 j7_5), .int .u8 (40 : Int)]) tt_ok rfl rfl ?_
      refine wl_alloc tt_ok rfl rfl (fun b7 => ?_)
      apply wl_store tt_ok; rfl; exact Upd.here; rfl; rfl; rfl; rfl; rfl; rfl
      refine wl_nil ?_
      refine wx_then ?_
      refine wc_seq ?_
      refine wc_region ?_
      refine wl_chg (chg_bsv (enc := (e1 .i32)) (xs := ([(2048 : Int), (-2048 : Int), (0 : Int), (0 : Int)] : List Int)) tt_ok rfl rfl rfl rfl rfl rfl rfl rfl (e1_len _)) rfl ?_
      rintro _ _ ⟨a41, n41_, c41, B41, rfl, N41, V41, rfl⟩
      refine wl_pure (v := .pointer (some ⟨b6, 6, none⟩)) tt_ok rfl rfl ?_
      refine wl_val (v := .int .u8 j7_n2_f2.2.Face) (val_load tt_ok rfl (mR (List.Mem.tail _ (List.Mem.head _))) rfl) rfl ?_
      replace h := bsome h; obtain ⟨v44, x44, h⟩ := h
      refine wl_val (v := .pointer (some ((adOf a41).add (j7_n2_f2.2.Face.toNat * 1 + 0)))) (val_ix (enc := (e1 .i32)) tt_ok rfl rfl rfl rfl N41 (Rds.of_vec V41) (e1_len _) rfl x44) rfl ?_
      refine wl_val (v := .int .i32 v44) (val_le (enc := (e1 .i32)) (xs := ([(2048 : Int), (-2048 : Int), (0 : Int), (0 : Int)] : List Int)) tt_ok rfl (Rds.of_vec V41) ⟨_, Sel.ha⟩ (e1_len _) x44 rfl) rfl ?_
      refine wl_pure (v := .pointer (some ⟨b7, 2, none⟩)) tt_ok rfl rfl ?_
      apply wl_store tt_ok; rfl; exact (Upd.right Upd.here); rfl; rfl; rfl; rfl; rfl; rfl
      refine wl_nil ?_
      refine wx_then ?_
      refine wc_seq ?_
      refine wc_region ?_
      refine wl_chg (chg_bsv (enc := (e1 .i32)) (xs := ([(0 : Int), (0 : Int), (-2048 : Int), (2048 : Int)] : List Int)) tt_ok rfl rfl rfl rfl rfl rfl rfl rfl (e1_len _)) rfl ?_
      rintro _ _ ⟨a47, n47_, c47, B47, rfl, N47, V47, rfl⟩
      refine wl_pure (v := .pointer (some ⟨b6, 6, none⟩)) tt_ok rfl rfl ?_
      refine wl_val (v := .int .u8 j7_n2_f2.2.Face) (val_load tt_ok rfl (mR (mR (List.Mem.tail _ (List.Mem.head _)))) rfl) rfl ?_
      replace h := bsome h; obtain ⟨v50, x50, h⟩ := h
      refine wl_val (v := .pointer (some ((adOf a47).add (j7_n2_f2.2.Face.toNat * 1 + 0)))) (val_ix (enc := (e1 .i32)) tt_ok rfl rfl rfl rfl N47 (Rds.of_vec V47) (e1_len _) rfl x50) rfl ?_
      refine wl_val (v := .int .i32 v50) (val_le (enc := (e1 .i32)) (xs := ([(0 : Int), (0 : Int), (-2048 : Int), (2048 : Int)] : List Int)) tt_ok rfl (Rds.of_vec V47) ⟨_, Sel.ha⟩ (e1_len _) x50 rfl) rfl ?_
      refine wl_pure (v := .pointer (some ⟨b7, 3, none⟩)) tt_ok rfl rfl ?_
      apply wl_store tt_ok; rfl; exact (Upd.right (Upd.right Upd.here)); rfl; rfl; rfl; rfl; rfl; rfl
      refine wl_nil ?_
      refine wx_then ?_
      refine wc_seq ?_
      refine wc_region ?_
      refine wl_pure (v := .pointer (some ⟨b2, 16, none⟩)) tt_ok rfl rfl ?_
      refine wl_val (v := .slice j7_n2_f3a0 j7_n2_f3n0 j7_n2_f3c0) (val_load tt_ok rfl (mR (mR (List.Mem.tail _ (List.Mem.tail _ (List.Mem.head _))))) rfl) rfl ?_
      refine wl_val (v := .agg #[.int .i32 (IntKind.wrap .i32 (j7_n2_f2.2.X + (1792 : Int))), .int .i32 (IntKind.wrap .i32 (j7_n2_f2.2.Y + (1792 : Int))), .int .i32 v44, .int .i32 v50, .int .u8 (IntKind.wrap .u8 j7_5), .int .u8 (40 : Int)]) (val_load tt_ok rfl (mR (mR (List.Mem.head _))) rfl) rfl ?_
      refine wl_chg (chg_bsv (enc := c_T_api_Shot) (xs := ([(T_api_Shot.mk (IntKind.wrap .i32 (j7_n2_f2.2.X + (1792 : Int))) (IntKind.wrap .i32 (j7_n2_f2.2.Y + (1792 : Int))) v44 v50 (IntKind.wrap .u8 j7_5) (40 : Int))] : List T_api_Shot)) tt_ok rfl rfl rfl rfl rfl rfl rfl rfl c_T_api_Shot_len) rfl ?_
      rintro _ _ ⟨a56, n56_, c56, B56, rfl, N56, V56, rfl⟩
      replace h := bsome h; obtain ⟨v57, x57, h⟩ := h
      refine wl_chg (chg_app (enc := c_T_api_Shot) (ys := ([(T_api_Shot.mk (IntKind.wrap .i32 (j7_n2_f2.2.X + (1792 : Int))) (IntKind.wrap .i32 (j7_n2_f2.2.Y + (1792 : Int))) v44 v50 (IntKind.wrap .u8 j7_5) (40 : Int))] : List T_api_Shot)) tt_ok rfl rfl rfl rfl rfl rfl j7_n2_f3N0 N56 j7_n2_f3V0 (Sel.sa (Sel.sa (Sel.sa (Sel.sc (Sel.sc (Sel.sc (Sel.sc (Sel.sc Sel.ha)))))))) (Rds.of_vec V56) ⟨_, Sel.ha⟩ c_T_api_Shot_len (fun _ => rfl) rfl x57) rfl ?_
      rintro _ _ ⟨a57, n57_, c57, B57, rfl, N57, V57, rfl⟩
      refine wl_pure (v := .pointer (some ⟨b2, 16, none⟩)) tt_ok rfl rfl ?_
      apply wl_store tt_ok; rfl; exact (Upd.right (Upd.right (Upd.right (Upd.right (Upd.there (Upd.there Upd.here)))))); rfl; rfl; rfl; rfl; rfl; rfl
      refine wl_nil ?_
      refine wx_then ?_
      refine wc_region ?_
      refine wl_pure tt_ok rfl rfl ?_
      refine wl_pure (v := .pointer (some ⟨b2, 2, none⟩)) tt_ok rfl rfl ?_
      refine wl_val (v := .pointer (some ⟨b2, 9, none⟩)) (val_ia (j := 1) tt_ok rfl rfl rfl rfl (by simpa using hx141) rfl rfl) rfl ?_
      refine wl_pure (v := .pointer (some ⟨b2, 14, none⟩)) tt_ok rfl rfl ?_
      apply wl_store tt_ok; rfl; exact (Upd.right (Upd.right (Upd.right (Upd.right (Upd.there (Upd.there Upd.here)))))); rfl; rfl; rfl; rfl; rfl; rfl
      refine wl_nil ?_
      refine wx_block ?_
      refine wx_then ?_
      refine wc_region ?_
      refine wl_pure tt_ok rfl rfl ?_
      refine wl_pure (v := .int .i64 (IntKind.wrap .i64 (j7_5 + (1 : Int)))) tt_ok rfl rfl ?_
      refine wl_pure tt_ok rfl rfl ?_
      refine wl_nil ?_
      exact wx_round m7 (Nat.lt_succ_self m7) ⟨(IntKind.wrap .i64 (j7_5 + (1 : Int))), (j7_n2_f2.1, (T_api_Player.mk j7_n2_f2.2.X j7_n2_f2.2.Y j7_n2_f2.2.VX j7_n2_f2.2.VY j7_n2_f2.2.Health (10 : Int) j7_n2_f2.2.Face)), v57, a57, n57_, c57, B57, h, N57, V57, rfl, rfl⟩ (agree_cons rfl (agree_cons rfl (agree_cons rfl (agree_cons rfl agree_nil)))) (pSub (pCons (Sel.sa (Sel.sa (Sel.sa (Sel.sa (Sel.sc (Sel.sc Sel.hc)))))) (pCons (Sel.sa (Sel.sa (Sel.sa (Sel.sa (Sel.sc (Sel.sc Sel.hc)))))) (pCons (Sel.sa (Sel.sa (Sel.sa (Sel.sa (Sel.sc (Sel.sc Sel.hc)))))) (pApp Sel.ha pNil)))))
    replace h := cf hx141 h
    cases h
  replace h := cf hc h
  refine wc_exit ?_
  refine wx_then_exit ?_
  simp only [Option.some.injEq, Prod.mk.injEq] at h
  obtain ⟨rfl, rfl⟩ := h
  have h := hl7; clear hl7; try dsimp only [orE_l, orE_r] at h
  refine wx_then_exit ?_
  refine wx_block_exit ?_
  refine wx_then ?_
  refine wc_seq ?_
  refine wc_region ?_
  refine wl_val (v := .agg #[.int .u64 p0.Frame, .int .u64 p0.Seed, .int .i32 j7_n2_f2.1.X, .int .i32 j7_n2_f2.1.Y, .int .i32 j7_n2_f2.1.VX, .int .i32 j7_n2_f2.1.VY, .int .u8 j7_n2_f2.1.Health, .int .u8 j7_n2_f2.1.Cool, .int .u8 j7_n2_f2.1.Face, .int .i32 j7_n2_f2.2.X, .int .i32 j7_n2_f2.2.Y, .int .i32 j7_n2_f2.2.VX, .int .i32 j7_n2_f2.2.VY, .int .u8 j7_n2_f2.2.Health, .int .u8 j7_n2_f2.2.Cool, .int .u8 j7_n2_f2.2.Face, .slice j7_n2_f3a0 j7_n2_f3n0 j7_n2_f3c0, .int .u16 p0.Score.1, .int .u16 p0.Score.2]) (val_load tt_ok rfl (List.Mem.head _) rfl) rfl ?_
  apply wl_store tt_ok; rfl; exact (Upd.there (Upd.there Upd.here)); rfl; rfl; rfl; rfl; rfl; rfl
  refine wl_nil ?_
  refine wx_then ?_
  refine wc_ret ?_
  simp only [Option.some.injEq] at h
  obtain rfl := h
  exact wx_spD tt_ok (.inl rfl) Tryd.results55 (Res.cell rfl (List.Mem.tail _ (List.Mem.tail _ (List.Mem.head _))) rfl Res.nil) ⟨j7_n2_f3a0, j7_n2_f3n0, j7_n2_f3c0, j7_n2_f3B0, j7_n2_f3N0, j7_n2_f3V0, rfl, rfl⟩ (fun F => by simp) (pSub (pApp (Sel.sc (Sel.sc (Sel.sc Sel.ha))) pNil))

theorem k_hindcastref07_Move {F : Nat} {p0 : Int} {p1 : Int} {p2 : Int} {p3 : Int} {r0 : Int} {r1 : Int} (h : m_hindcastref07_Move F p0 p1 p2 p3 = some (r0, r1)) :
    Pf Tryd.prog 75 [.int .i32 p0, .int .i32 p1, .int .i32 p2, .int .i32 p3] (fun w => True) (.tuple #[.int .i32 r0, .int .i32 r1]) := by
  unfold m_hindcastref07_Move at h
  refine pf_of_wc Tryd.func75 rfl Tryd.ntmps75 rfl rfl (fun w0 hR => ?_)
  refine wc_seq ?_
  refine wc_region ?_
  refine wl_pure tt_ok rfl rfl ?_
  refine wl_pure tt_ok rfl rfl ?_
  refine wl_nil ?_
  refine wx_then ?_
  refine wc_seq ?_
  refine wc_region ?_
  refine wl_pure tt_ok rfl rfl ?_
  refine wl_pure (v := .int .i64 (IntKind.wrap .i64 p0)) tt_ok rfl rfl ?_
  refine wl_pure tt_ok rfl rfl ?_
  refine wl_pure (v := .int .i64 (IntKind.wrap .i64 p1)) tt_ok rfl rfl ?_
  refine wl_pure (v := .int .i64 (IntKind.wrap .i64 ((IntKind.wrap .i64 p0) + (IntKind.wrap .i64 p1)))) tt_ok rfl rfl ?_
  refine wl_pure tt_ok rfl rfl ?_
  refine wl_nil ?_
  refine wx_then ?_
  refine wc_seq ?_
  refine wc_seq ?_
  refine wc_region ?_
  refine wl_pure tt_ok rfl rfl ?_
  refine wl_pure tt_ok rfl rfl ?_
  refine wl_pure (v := .bool (decide (p3 < p2))) tt_ok rfl rfl ?_
  refine wl_nil ?_
  refine wx_then ?_
  refine wc_cond rfl (fun hc => ?_) (fun hc => ?_)
  · replace h := ct hc h
    refine wc_seq ?_
    refine wc_region ?_
    refine wl_pure tt_ok rfl rfl ?_
    refine wl_pure tt_ok rfl rfl ?_
    refine wl_pure tt_ok rfl rfl ?_
    refine wl_nil ?_
    refine wx_then ?_
    refine wc_ret ?_
    refine wx_then_ret ?_
    simp only [Option.some.injEq, Prod.mk.injEq] at h
    obtain ⟨rfl, rfl⟩ := h
    exact wx_pf tt_ok (.inl rfl) Tryd.results75 (Res.tmp rfl (Res.tmp rfl Res.nil)) rfl
  replace h := cf hc h
  refine wc_skip ?_
  refine wx_then ?_
  refine wc_seq ?_
  refine wc_seq ?_
  refine wc_region ?_
  refine wl_pure tt_ok rfl rfl ?_
  refine wl_pure tt_ok rfl rfl ?_
  refine wl_pure (v := .int .i64 (IntKind.wrap .i64 p2)) tt_ok rfl rfl ?_
  refine wl_pure (v := .bool (decide ((IntKind.wrap .i64 ((IntKind.wrap .i64 p0) + (IntKind.wrap .i64 p1))) < (IntKind.wrap .i64 p2)))) tt_ok rfl rfl ?_
  refine wl_nil ?_
  refine wx_then ?_
  refine wc_cond rfl (fun hc => ?_) (fun hc => ?_)
  · replace h := ct hc h
    refine wc_seq ?_
    refine wc_region ?_
    refine wl_pure tt_ok rfl rfl ?_
    refine wl_pure tt_ok rfl rfl ?_
    refine wl_pure tt_ok rfl rfl ?_
    refine wl_nil ?_
    refine wx_then ?_
    refine wc_ret ?_
    refine wx_then_ret ?_
    simp only [Option.some.injEq, Prod.mk.injEq] at h
    obtain ⟨rfl, rfl⟩ := h
    exact wx_pf tt_ok (.inl rfl) Tryd.results75 (Res.tmp rfl (Res.tmp rfl Res.nil)) rfl
  replace h := cf hc h
  refine wc_skip ?_
  refine wx_then ?_
  refine wc_seq ?_
  refine wc_seq ?_
  refine wc_region ?_
  refine wl_pure tt_ok rfl rfl ?_
  refine wl_pure tt_ok rfl rfl ?_
  refine wl_pure (v := .int .i64 (IntKind.wrap .i64 p3)) tt_ok rfl rfl ?_
  refine wl_pure (v := .bool (decide ((IntKind.wrap .i64 p3) < (IntKind.wrap .i64 ((IntKind.wrap .i64 p0) + (IntKind.wrap .i64 p1)))))) tt_ok rfl rfl ?_
  refine wl_nil ?_
  refine wx_then ?_
  refine wc_cond rfl (fun hc => ?_) (fun hc => ?_)
  · replace h := ct hc h
    refine wc_seq ?_
    refine wc_region ?_
    refine wl_pure tt_ok rfl rfl ?_
    refine wl_pure tt_ok rfl rfl ?_
    refine wl_pure tt_ok rfl rfl ?_
    refine wl_nil ?_
    refine wx_then ?_
    refine wc_ret ?_
    refine wx_then_ret ?_
    simp only [Option.some.injEq, Prod.mk.injEq] at h
    obtain ⟨rfl, rfl⟩ := h
    exact wx_pf tt_ok (.inl rfl) Tryd.results75 (Res.tmp rfl (Res.tmp rfl Res.nil)) rfl
  replace h := cf hc h
  refine wc_skip ?_
  refine wx_then ?_
  refine wc_seq ?_
  refine wc_region ?_
  refine wl_pure tt_ok rfl rfl ?_
  refine wl_pure (v := .int .i32 (IntKind.wrap .i32 (IntKind.wrap .i64 ((IntKind.wrap .i64 p0) + (IntKind.wrap .i64 p1))))) tt_ok rfl rfl ?_
  refine wl_pure tt_ok rfl rfl ?_
  refine wl_pure tt_ok rfl rfl ?_
  refine wl_pure tt_ok rfl rfl ?_
  refine wl_nil ?_
  refine wx_then ?_
  refine wc_ret ?_
  simp only [Option.some.injEq, Prod.mk.injEq] at h
  obtain ⟨rfl, rfl⟩ := h
  exact wx_pf tt_ok (.inl rfl) Tryd.results75 (Res.tmp rfl (Res.tmp rfl Res.nil)) rfl

theorem k_hindcastref09_Box {F : Nat} {p0 : T_api_Player} {r0 : T_api_Box} (h : m_hindcastref09_Box F p0 = some r0) :
    Pf Tryd.prog 77 [.agg #[.int .i32 p0.X, .int .i32 p0.Y, .int .i32 p0.VX, .int .i32 p0.VY, .int .u8 p0.Health, .int .u8 p0.Cool, .int .u8 p0.Face]] (fun w => True) (.agg #[.int .i32 r0.X, .int .i32 r0.Y, .int .i32 r0.W, .int .i32 r0.H]) := by
  unfold m_hindcastref09_Box at h
  refine pf_of_wc Tryd.func77 rfl Tryd.ntmps77 rfl rfl (fun w0 hR => ?_)
  refine wc_seq ?_
  refine wc_region ?_
  refine wl_box rfl rfl rfl (fun b1 => ?_)
  refine wl_alloc tt_ok rfl rfl (fun b2 => ?_)
  refine wl_nil ?_
  refine wx_then ?_
  refine wc_seq ?_
  refine wc_region ?_
  refine wl_pure (v := .pointer (some ⟨b1, 0, none⟩)) tt_ok rfl rfl ?_
  refine wl_val (v := .int .i32 p0.X) (val_load tt_ok rfl (List.Mem.tail _ (List.Mem.head _)) rfl) rfl ?_
  refine wl_pure (v := .pointer (some ⟨b1, 1, none⟩)) tt_ok rfl rfl ?_
  refine wl_val (v := .int .i32 p0.Y) (val_load tt_ok rfl (List.Mem.tail _ (List.Mem.head _)) rfl) rfl ?_
  refine wl_pure (v := .agg #[.int .i32 p0.X, .int .i32 p0.Y, .int .i32 (4096 : Int), .int .i32 (4096 : Int)]) tt_ok rfl rfl ?_
  apply wl_store tt_ok; rfl; exact Upd.here; rfl; rfl; rfl; rfl; rfl; rfl
  refine wl_nil ?_
  refine wx_then ?_
  refine wc_ret ?_
  simp only [Option.some.injEq] at h
  obtain rfl := h
  exact wx_pf tt_ok (.inl rfl) Tryd.results77 (Res.cell rfl (List.Mem.head _) rfl Res.nil) rfl

theorem k_hindcastref07_greater {F : Nat} {p0 : Int} {p1 : Int} {r0 : Int} (h : m_hindcastref07_greater F p0 p1 = some r0) :
    Pf Tryd.prog 87 [.int .i64 p0, .int .i64 p1] (fun w => True) (.int .i64 r0) := by
  unfold m_hindcastref07_greater at h
  refine pf_of_wc Tryd.func87 rfl Tryd.ntmps87 rfl rfl (fun w0 hR => ?_)
  refine wc_seq ?_
  refine wc_region ?_
  refine wl_pure tt_ok rfl rfl ?_
  refine wl_nil ?_
  refine wx_then ?_
  refine wc_seq ?_
  refine wc_seq ?_
  refine wc_region ?_
  refine wl_pure tt_ok rfl rfl ?_
  refine wl_pure tt_ok rfl rfl ?_
  refine wl_pure (v := .bool (decide (p1 < p0))) tt_ok rfl rfl ?_
  refine wl_nil ?_
  refine wx_then ?_
  refine wc_cond rfl (fun hc => ?_) (fun hc => ?_)
  · replace h := ct hc h
    refine wc_seq ?_
    refine wc_region ?_
    refine wl_pure tt_ok rfl rfl ?_
    refine wl_pure tt_ok rfl rfl ?_
    refine wl_nil ?_
    refine wx_then ?_
    refine wc_ret ?_
    refine wx_then_ret ?_
    simp only [Option.some.injEq] at h
    obtain rfl := h
    exact wx_pf tt_ok (.inl rfl) Tryd.results87 (Res.tmp rfl Res.nil) rfl
  replace h := cf hc h
  refine wc_skip ?_
  refine wx_then ?_
  refine wc_seq ?_
  refine wc_region ?_
  refine wl_pure tt_ok rfl rfl ?_
  refine wl_pure tt_ok rfl rfl ?_
  refine wl_nil ?_
  refine wx_then ?_
  refine wc_ret ?_
  simp only [Option.some.injEq] at h
  obtain rfl := h
  exact wx_pf tt_ok (.inl rfl) Tryd.results87 (Res.tmp rfl Res.nil) rfl

theorem k_hindcastref07_Has {F : Nat} {p0 : T_api_Box} {p1 : Int} {p2 : Int} {r0 : Bool} (h : m_hindcastref07_Has F p0 p1 p2 = some r0) :
    Pf Tryd.prog 88 [.agg #[.int .i32 p0.X, .int .i32 p0.Y, .int .i32 p0.W, .int .i32 p0.H], .int .i64 p1, .int .i64 p2] (fun w => True) (.bool r0) := by
  unfold m_hindcastref07_Has at h
  refine pf_of_wc Tryd.func88 rfl Tryd.ntmps88 rfl rfl (fun w0 hR => ?_)
  refine wc_seq ?_
  refine wc_region ?_
  refine wl_box rfl rfl rfl (fun b3 => ?_)
  refine wl_pure tt_ok rfl rfl ?_
  refine wl_nil ?_
  refine wx_then ?_
  refine wc_seq ?_
  refine wc_region ?_
  refine wl_pure tt_ok rfl rfl ?_
  refine wl_pure (v := .pointer (some ⟨b3, 0, none⟩)) tt_ok rfl rfl ?_
  refine wl_val (v := .int .i32 p0.X) (val_load tt_ok rfl (List.Mem.head _) rfl) rfl ?_
  refine wl_pure (v := .int .i64 (IntKind.wrap .i64 p0.X)) tt_ok rfl rfl ?_
  refine wl_pure (v := .bool (decide ((IntKind.wrap .i64 p0.X) ≤ p1))) tt_ok rfl rfl ?_
  refine wl_pure tt_ok rfl rfl ?_
  replace h := bsome h; obtain ⟨v22, h, hg22⟩ := h
  refine wl_split (t := 12) rfl (fun hc => ?_) (fun hc => ?_)
  · replace h := ct hc h
    refine wl_run rfl ?_
    refine wl_pure tt_ok rfl rfl ?_
    refine wl_run rfl ?_
    refine wl_pure (v := .pointer (some ⟨b3, 0, none⟩)) tt_ok rfl rfl ?_
    refine wl_run rfl ?_
    refine wl_val (v := .int .i32 p0.X) (val_load tt_ok rfl (List.Mem.head _) rfl) rfl ?_
    refine wl_run rfl ?_
    refine wl_pure (v := .int .i64 (IntKind.wrap .i64 p0.X)) tt_ok rfl rfl ?_
    refine wl_run rfl ?_
    refine wl_pure (v := .int .i64 (IntKind.wrap .i64 (p1 - (IntKind.wrap .i64 p0.X)))) tt_ok rfl rfl ?_
    refine wl_run rfl ?_
    refine wl_pure (v := .pointer (some ⟨b3, 2, none⟩)) tt_ok rfl rfl ?_
    refine wl_run rfl ?_
    refine wl_val (v := .int .i32 p0.W) (val_load tt_ok rfl (List.Mem.head _) rfl) rfl ?_
    refine wl_run rfl ?_
    refine wl_pure (v := .int .i64 (IntKind.wrap .i64 p0.W)) tt_ok rfl rfl ?_
    refine wl_run rfl ?_
    refine wl_pure (v := .bool (decide ((IntKind.wrap .i64 (p1 - (IntKind.wrap .i64 p0.X))) < (IntKind.wrap .i64 p0.W)))) tt_ok rfl rfl ?_
    simp only [Option.some.injEq, Prod.mk.injEq] at h
    obtain rfl := h
    have h := hg22; clear hg22
    refine wl_pure (v := .bool (decide ((IntKind.wrap .i64 (p1 - (IntKind.wrap .i64 p0.X))) < (IntKind.wrap .i64 p0.W)))) tt_ok rfl rfl ?_
    refine wl_pure tt_ok rfl rfl ?_
    replace h := bsome h; obtain ⟨v29, h, hg29⟩ := h
    refine wl_split (t := 23) rfl (fun hc => ?_) (fun hc => ?_)
    · replace h := ct hc h
      refine wl_run rfl ?_
      refine wl_pure tt_ok rfl rfl ?_
      refine wl_run rfl ?_
      refine wl_pure (v := .pointer (some ⟨b3, 1, none⟩)) tt_ok rfl rfl ?_
      refine wl_run rfl ?_
      refine wl_val (v := .int .i32 p0.Y) (val_load tt_ok rfl (List.Mem.head _) rfl) rfl ?_
      refine wl_run rfl ?_
      refine wl_pure (v := .int .i64 (IntKind.wrap .i64 p0.Y)) tt_ok rfl rfl ?_
      refine wl_run rfl ?_
      refine wl_pure (v := .bool (decide ((IntKind.wrap .i64 p0.Y) ≤ p2))) tt_ok rfl rfl ?_
      simp only [Option.some.injEq, Prod.mk.injEq] at h
      obtain rfl := h
      have h := hg29; clear hg29
      refine wl_pure (v := .bool (decide ((IntKind.wrap .i64 p0.Y) ≤ p2))) tt_ok rfl rfl ?_
      refine wl_pure tt_ok rfl rfl ?_
      replace h := bsome h; obtain ⟨v40, h, hg40⟩ := h
      refine wl_split (t := 30) rfl (fun hc => ?_) (fun hc => ?_)
      · replace h := ct hc h
        refine wl_run rfl ?_
        refine wl_pure tt_ok rfl rfl ?_
        refine wl_run rfl ?_
        refine wl_pure (v := .pointer (some ⟨b3, 1, none⟩)) tt_ok rfl rfl ?_
        refine wl_run rfl ?_
        refine wl_val (v := .int .i32 p0.Y) (val_load tt_ok rfl (List.Mem.head _) rfl) rfl ?_
        refine wl_run rfl ?_
        refine wl_pure (v := .int .i64 (IntKind.wrap .i64 p0.Y)) tt_ok rfl rfl ?_
        refine wl_run rfl ?_
        refine wl_pure (v := .int .i64 (IntKind.wrap .i64 (p2 - (IntKind.wrap .i64 p0.Y)))) tt_ok rfl rfl ?_
        refine wl_run rfl ?_
        refine wl_pure (v := .pointer (some ⟨b3, 3, none⟩)) tt_ok rfl rfl ?_
        refine wl_run rfl ?_
        refine wl_val (v := .int .i32 p0.H) (val_load tt_ok rfl (List.Mem.head _) rfl) rfl ?_
        refine wl_run rfl ?_
        refine wl_pure (v := .int .i64 (IntKind.wrap .i64 p0.H)) tt_ok rfl rfl ?_
        refine wl_run rfl ?_
        refine wl_pure (v := .bool (decide ((IntKind.wrap .i64 (p2 - (IntKind.wrap .i64 p0.Y))) < (IntKind.wrap .i64 p0.H)))) tt_ok rfl rfl ?_
        simp only [Option.some.injEq, Prod.mk.injEq] at h
        obtain rfl := h
        have h := hg40; clear hg40
        refine wl_pure (v := .bool (decide ((IntKind.wrap .i64 (p2 - (IntKind.wrap .i64 p0.Y))) < (IntKind.wrap .i64 p0.H)))) tt_ok rfl rfl ?_
        refine wl_pure tt_ok rfl rfl ?_
        refine wl_nil ?_
        refine wx_then ?_
        refine wc_ret ?_
        simp only [Option.some.injEq] at h
        obtain rfl := h
        exact wx_pf tt_ok (.inl rfl) Tryd.results88 (Res.tmp rfl Res.nil) rfl
      replace h := cf hc h
      refine wl_skip rfl rfl ?_
      refine wl_skip rfl rfl ?_
      refine wl_skip rfl rfl ?_
      refine wl_skip rfl rfl ?_
      refine wl_skip rfl rfl ?_
      refine wl_skip rfl rfl ?_
      refine wl_skip rfl rfl ?_
      refine wl_skip rfl rfl ?_
      refine wl_skip rfl rfl ?_
      simp only [Option.some.injEq, Prod.mk.injEq] at h
      obtain rfl := h
      have h := hg40; clear hg40
      refine wl_pure (v := .bool false) tt_ok rfl rfl ?_
      refine wl_pure tt_ok rfl rfl ?_
      refine wl_nil ?_
      refine wx_then ?_
      refine wc_ret ?_
      simp only [Option.some.injEq] at h
      obtain rfl := h
      exact wx_pf tt_ok (.inl rfl) Tryd.results88 (Res.tmp rfl Res.nil) rfl
    replace h := cf hc h
    refine wl_skip rfl rfl ?_
    refine wl_skip rfl rfl ?_
    refine wl_skip rfl rfl ?_
    refine wl_skip rfl rfl ?_
    refine wl_skip rfl rfl ?_
    simp only [Option.some.injEq, Prod.mk.injEq] at h
    obtain rfl := h
    have h := hg29; clear hg29
    refine wl_pure (v := .bool false) tt_ok rfl rfl ?_
    refine wl_pure tt_ok rfl rfl ?_
    replace h := bsome h; obtain ⟨v40, h, hg40⟩ := h
    replace h := cf rfl h
    refine wl_skip rfl rfl ?_
    refine wl_skip rfl rfl ?_
    refine wl_skip rfl rfl ?_
    refine wl_skip rfl rfl ?_
    refine wl_skip rfl rfl ?_
    refine wl_skip rfl rfl ?_
    refine wl_skip rfl rfl ?_
    refine wl_skip rfl rfl ?_
    refine wl_skip rfl rfl ?_
    simp only [Option.some.injEq, Prod.mk.injEq] at h
    obtain rfl := h
    have h := hg40; clear hg40
    refine wl_pure (v := .bool false) tt_ok rfl rfl ?_
    refine wl_pure tt_ok rfl rfl ?_
    refine wl_nil ?_
    refine wx_then ?_
    refine wc_ret ?_
    simp only [Option.some.injEq] at h
    obtain rfl := h
    exact wx_pf tt_ok (.inl rfl) Tryd.results88 (Res.tmp rfl Res.nil) rfl
  replace h := cf hc h
  refine wl_skip rfl rfl ?_
  refine wl_skip rfl rfl ?_
  refine wl_skip rfl rfl ?_
  refine wl_skip rfl rfl ?_
  refine wl_skip rfl rfl ?_
  refine wl_skip rfl rfl ?_
  refine wl_skip rfl rfl ?_
  refine wl_skip rfl rfl ?_
  refine wl_skip rfl rfl ?_
  simp only [Option.some.injEq, Prod.mk.injEq] at h
  obtain rfl := h
  have h := hg22; clear hg22
  refine wl_pure (v := .bool false) tt_ok rfl rfl ?_
  refine wl_pure tt_ok rfl rfl ?_
  replace h := bsome h; obtain ⟨v29, h, hg29⟩ := h
  replace h := cf rfl h
  refine wl_skip rfl rfl ?_
  refine wl_skip rfl rfl ?_
  refine wl_skip rfl rfl ?_
  refine wl_skip rfl rfl ?_
  refine wl_skip rfl rfl ?_
  simp only [Option.some.injEq, Prod.mk.injEq] at h
  obtain rfl := h
  have h := hg29; clear hg29
  refine wl_pure (v := .bool false) tt_ok rfl rfl ?_
  refine wl_pure tt_ok rfl rfl ?_
  replace h := bsome h; obtain ⟨v40, h, hg40⟩ := h
  replace h := cf rfl h
  refine wl_skip rfl rfl ?_
  refine wl_skip rfl rfl ?_
  refine wl_skip rfl rfl ?_
  refine wl_skip rfl rfl ?_
  refine wl_skip rfl rfl ?_
  refine wl_skip rfl rfl ?_
  refine wl_skip rfl rfl ?_
  refine wl_skip rfl rfl ?_
  refine wl_skip rfl rfl ?_
  simp only [Option.some.injEq, Prod.mk.injEq] at h
  obtain rfl := h
  have h := hg40; clear hg40
  refine wl_pure (v := .bool false) tt_ok rfl rfl ?_
  refine wl_pure tt_ok rfl rfl ?_
  refine wl_nil ?_
  refine wx_then ?_
  refine wc_ret ?_
  simp only [Option.some.injEq] at h
  obtain rfl := h
  exact wx_pf tt_ok (.inl rfl) Tryd.results88 (Res.tmp rfl Res.nil) rfl

theorem k_hindcastref07_Over {F : Nat} {p0 : T_api_Box} {p1 : T_api_Box} {r0 : Bool} (h : m_hindcastref07_Over F p0 p1 = some r0) :
    Pf Tryd.prog 76 [.agg #[.int .i32 p0.X, .int .i32 p0.Y, .int .i32 p0.W, .int .i32 p0.H], .agg #[.int .i32 p1.X, .int .i32 p1.Y, .int .i32 p1.W, .int .i32 p1.H]] (fun w => True) (.bool r0) := by
  unfold m_hindcastref07_Over at h
  refine pf_of_wc Tryd.func76 rfl Tryd.ntmps76 rfl rfl (fun w0 hR => ?_)
  refine wc_seq ?_
  refine wc_region ?_
  refine wl_box rfl rfl rfl (fun b2 => ?_)
  refine wl_box rfl rfl rfl (fun b3 => ?_)
  refine wl_pure tt_ok rfl rfl ?_
  refine wl_nil ?_
  refine wx_then ?_
  refine wc_seq ?_
  refine wc_region ?_
  refine wl_pure (v := .pointer (some ⟨b2, 0, none⟩)) tt_ok rfl rfl ?_
  refine wl_val (v := .int .i32 p0.X) (val_load tt_ok rfl (List.Mem.tail _ (List.Mem.head _)) rfl) rfl ?_
  refine wl_pure (v := .int .i64 (IntKind.wrap .i64 p0.X)) tt_ok rfl rfl ?_
  refine wl_pure (v := .pointer (some ⟨b3, 0, none⟩)) tt_ok rfl rfl ?_
  refine wl_val (v := .int .i32 p1.X) (val_load tt_ok rfl (List.Mem.head _) rfl) rfl ?_
  refine wl_pure (v := .int .i64 (IntKind.wrap .i64 p1.X)) tt_ok rfl rfl ?_
  replace h := bsome h; obtain ⟨v13, x13, h⟩ := h
  refine wl_cq Tryd.call87 rfl rfl rfl (q_pf (k_hindcastref07_greater x13) (fun _ _ => trivial)) rfl ?_
  refine wl_pure tt_ok rfl rfl ?_
  refine wl_nil ?_
  refine wx_then ?_
  refine wc_seq ?_
  refine wc_region ?_
  refine wl_pure (v := .pointer (some ⟨b2, 1, none⟩)) tt_ok rfl rfl ?_
  refine wl_val (v := .int .i32 p0.Y) (val_load tt_ok rfl (List.Mem.tail _ (List.Mem.head _)) rfl) rfl ?_
  refine wl_pure (v := .int .i64 (IntKind.wrap .i64 p0.Y)) tt_ok rfl rfl ?_
  refine wl_pure (v := .pointer (some ⟨b3, 1, none⟩)) tt_ok rfl rfl ?_
  refine wl_val (v := .int .i32 p1.Y) (val_load tt_ok rfl (List.Mem.head _) rfl) rfl ?_
  refine wl_pure (v := .int .i64 (IntKind.wrap .i64 p1.Y)) tt_ok rfl rfl ?_
  replace h := bsome h; obtain ⟨v20, x20, h⟩ := h
  refine wl_cq Tryd.call87 rfl rfl rfl (q_pf (k_hindcastref07_greater x20) (fun _ _ => trivial)) rfl ?_
  refine wl_pure tt_ok rfl rfl ?_
  refine wl_nil ?_
  refine wx_then ?_
  refine wc_seq ?_
  refine wc_region ?_
  refine wl_val (v := .agg #[.int .i32 p0.X, .int .i32 p0.Y, .int .i32 p0.W, .int .i32 p0.H]) (val_load tt_ok rfl (List.Mem.tail _ (List.Mem.head _)) rfl) rfl ?_
  refine wl_pure tt_ok rfl rfl ?_
  refine wl_pure tt_ok rfl rfl ?_
  replace h := bsome h; obtain ⟨v24, x24, h⟩ := h
  refine wl_cq Tryd.call88 rfl rfl rfl (q_pf (k_hindcastref07_Has x24) (fun _ _ => trivial)) rfl ?_
  refine wl_pure tt_ok rfl rfl ?_
  replace h := bsome h; obtain ⟨v30, h, hg30⟩ := h
  refine wl_split (t := 25) rfl (fun hc => ?_) (fun hc => ?_)
  · replace h := ct hc h
    refine wl_run rfl ?_
    refine wl_val (v := .agg #[.int .i32 p1.X, .int .i32 p1.Y, .int .i32 p1.W, .int .i32 p1.H]) (val_load tt_ok rfl (List.Mem.head _) rfl) rfl ?_
    refine wl_run rfl ?_
    refine wl_pure tt_ok rfl rfl ?_
    refine wl_run rfl ?_
    refine wl_pure tt_ok rfl rfl ?_
    replace h := bsome h; obtain ⟨v29, x29, h⟩ := h
    refine wl_run rfl ?_
    refine wl_cq Tryd.call88 rfl rfl rfl (q_pf (k_hindcastref07_Has x29) (fun _ _ => trivial)) rfl ?_
    simp only [Option.some.injEq, Prod.mk.injEq] at h
    obtain rfl := h
    have h := hg30; clear hg30
    refine wl_pure (v := .bool v29) tt_ok rfl rfl ?_
    refine wl_pure tt_ok rfl rfl ?_
    refine wl_nil ?_
    refine wx_then ?_
    refine wc_ret ?_
    simp only [Option.some.injEq] at h
    obtain rfl := h
    exact wx_pf tt_ok (.inl rfl) Tryd.results76 (Res.tmp rfl Res.nil) rfl
  replace h := cf hc h
  refine wl_skip rfl rfl ?_
  refine wl_skip rfl rfl ?_
  refine wl_skip rfl rfl ?_
  refine wl_skip rfl rfl ?_
  simp only [Option.some.injEq, Prod.mk.injEq] at h
  obtain rfl := h
  have h := hg30; clear hg30
  refine wl_pure (v := .bool false) tt_ok rfl rfl ?_
  refine wl_pure tt_ok rfl rfl ?_
  refine wl_nil ?_
  refine wx_then ?_
  refine wc_ret ?_
  simp only [Option.some.injEq] at h
  obtain rfl := h
  exact wx_pf tt_ok (.inl rfl) Tryd.results76 (Res.tmp rfl Res.nil) rfl

theorem k_hindcastref09_three_o0 {F : Nat} {p0 : T_api_State} {p0a0 : Option Addr} {p0n0 p0c0 : Nat} {p0B0 : List Blk} {r0 : T_api_State} (p0N0 : p0n0 = p0.Shots.length) (p0V0 : Own 66 6 p0a0 p0n0 p0c0 (flat c_T_api_Shot p0.Shots) p0B0) (h : m_hindcastref09_three_o0 F p0 = some r0) :
    SpD Tryd.prog 56 [.agg #[.int .u64 p0.Frame, .int .u64 p0.Seed, .int .i32 p0.Players.1.X, .int .i32 p0.Players.1.Y, .int .i32 p0.Players.1.VX, .int .i32 p0.Players.1.VY, .int .u8 p0.Players.1.Health, .int .u8 p0.Players.1.Cool, .int .u8 p0.Players.1.Face, .int .i32 p0.Players.2.X, .int .i32 p0.Players.2.Y, .int .i32 p0.Players.2.VX, .int .i32 p0.Players.2.VY, .int .u8 p0.Players.2.Health, .int .u8 p0.Players.2.Cool, .int .u8 p0.Players.2.Face, .slice p0a0 p0n0 p0c0, .int .u16 p0.Score.1, .int .u16 p0.Score.2]] (p0B0 ++ []) (fun w => True) (fun v D => ∃ (r0a0 : Option Addr) (r0n0 r0c0 : Nat) (r0B0 : List Blk), r0n0 = r0.Shots.length ∧ Own 66 6 r0a0 r0n0 r0c0 (flat c_T_api_Shot r0.Shots) r0B0 ∧ v = .agg #[.int .u64 r0.Frame, .int .u64 r0.Seed, .int .i32 r0.Players.1.X, .int .i32 r0.Players.1.Y, .int .i32 r0.Players.1.VX, .int .i32 r0.Players.1.VY, .int .u8 r0.Players.1.Health, .int .u8 r0.Players.1.Cool, .int .u8 r0.Players.1.Face, .int .i32 r0.Players.2.X, .int .i32 r0.Players.2.Y, .int .i32 r0.Players.2.VX, .int .i32 r0.Players.2.VY, .int .u8 r0.Players.2.Health, .int .u8 r0.Players.2.Cool, .int .u8 r0.Players.2.Face, .slice r0a0 r0n0 r0c0, .int .u16 r0.Score.1, .int .u16 r0.Score.2] ∧ D = fun F => (r0B0 ++ F)) := by
  unfold m_hindcastref09_three_o0 at h
  refine sp_of_wc Tryd.func56 rfl Tryd.ntmps56 rfl rfl (fun w0 hR => ?_)
  refine wc_seq ?_
  refine wc_region ?_
  refine wl_box rfl rfl rfl (fun b1 => ?_)
  refine wl_alloc tt_ok rfl rfl (fun b2 => ?_)
  refine wl_nil ?_
  refine wx_then ?_
  refine wc_seq ?_
  refine wc_region ?_
  refine wl_pure (v := .pointer (some ⟨b1, 2, none⟩)) tt_ok rfl rfl ?_
  refine wl_val (v := .agg #[.int .i32 p0.Players.1.X, .int .i32 p0.Players.1.Y, .int .i32 p0.Players.1.VX, .int .i32 p0.Players.1.VY, .int .u8 p0.Players.1.Health, .int .u8 p0.Players.1.Cool, .int .u8 p0.Players.1.Face, .int .i32 p0.Players.2.X, .int .i32 p0.Players.2.Y, .int .i32 p0.Players.2.VX, .int .i32 p0.Players.2.VY, .int .u8 p0.Players.2.Health, .int .u8 p0.Players.2.Cool, .int .u8 p0.Players.2.Face]) (val_load tt_ok rfl (List.Mem.tail _ (List.Mem.head _)) rfl) rfl ?_
  refine wl_alloc tt_ok rfl rfl (fun b3 => ?_)
  apply wl_store tt_ok; rfl; exact Upd.here; rfl; rfl; rfl; rfl; rfl; rfl
  refine wl_nil ?_
  refine wx_then ?_
  refine wc_seq ?_
  refine wc_seq ?_
  refine wc_region ?_
  refine wl_pure tt_ok rfl rfl ?_
  refine wl_nil ?_
  refine wx_then ?_
  refine wc_block ?_
  replace h := bsome h; obtain ⟨l9_n1_f2, h, hl9⟩ := h
  refine wc_loop (fun m E L => ∃ (j9_4 : Int) (j9_n1_f2 : (T_api_Player × T_api_Player)), m_hindcastref09_three_o0_L8 F p0 m j9_4 j9_n1_f2 = some l9_n1_f2 ∧ E = [(1, .pointer (some ⟨b1, 0, none⟩)), (2, .pointer (some ⟨b2, 0, none⟩)), (3, .pointer (some ⟨b3, 0, none⟩)), (4, .int .i64 j9_4)] ∧ L = (⟨b1, [.int .u64 p0.Frame, .int .u64 p0.Seed, .int .i32 j9_n1_f2.1.X, .int .i32 j9_n1_f2.1.Y, .int .i32 j9_n1_f2.1.VX, .int .i32 j9_n1_f2.1.VY, .int .u8 j9_n1_f2.1.Health, .int .u8 j9_n1_f2.1.Cool, .int .u8 j9_n1_f2.1.Face, .int .i32 j9_n1_f2.2.X, .int .i32 j9_n1_f2.2.Y, .int .i32 j9_n1_f2.2.VX, .int .i32 j9_n1_f2.2.VY, .int .u8 j9_n1_f2.2.Health, .int .u8 j9_n1_f2.2.Cool, .int .u8 j9_n1_f2.2.Face, .slice p0a0 p0n0 p0c0, .int .u16 p0.Score.1, .int .u16 p0.Score.2], 30, (0, 0)⟩ :: (⟨b2, [.int .u64 (0 : Int), .int .u64 (0 : Int), .int .i32 (0 : Int), .int .i32 (0 : Int), .int .i32 (0 : Int), .int .i32 (0 : Int), .int .u8 (0 : Int), .int .u8 (0 : Int), .int .u8 (0 : Int), .int .i32 (0 : Int), .int .i32 (0 : Int), .int .i32 (0 : Int), .int .i32 (0 : Int), .int .u8 (0 : Int), .int .u8 (0 : Int), .int .u8 (0 : Int), .slice none 0 0, .int .u16 (0 : Int), .int .u16 (0 : Int)], 30, (0, 0)⟩ :: (⟨b3, [.int .i32 p0.Players.1.X, .int .i32 p0.Players.1.Y, .int .i32 p0.Players.1.VX, .int .i32 p0.Players.1.VY, .int .u8 p0.Players.1.Health, .int .u8 p0.Players.1.Cool, .int .u8 p0.Players.1.Face, .int .i32 p0.Players.2.X, .int .i32 p0.Players.2.Y, .int .i32 p0.Players.2.VX, .int .i32 p0.Players.2.VY, .int .u8 p0.Players.2.Health, .int .u8 p0.Players.2.Cool, .int .u8 p0.Players.2.Face], 25, (0, 0)⟩ :: (p0B0 ++ []))))) F ⟨(0 : Int), p0.Players, h, rfl, rfl⟩ (agree_cons rfl (agree_cons rfl (agree_cons rfl (agree_cons rfl agree_nil)))) (pSub (pCons (Sel.sc (Sel.sc Sel.hc)) (pCons (Sel.sc Sel.hc) (pCons Sel.hc (pApp Sel.ha pNil))))) ?_
  clear h
  rintro m9 _ _ ⟨j9_4, j9_n1_f2, h, rfl, rfl⟩
  rcases m9 with _ | m9
  · rw [m_hindcastref09_three_o0_L8.eq_1] at h; cases h
  rw [m_hindcastref09_three_o0_L8.eq_2] at h
  refine wc_seq ?_
  refine wc_seq ?_
  refine wc_region ?_
  refine wl_pure tt_ok rfl rfl ?_
  refine wl_pure (v := .bool (decide (j9_4 < (2 : Int)))) tt_ok rfl rfl ?_
  refine wl_nil ?_
  refine wx_then ?_
  refine wc_cond rfl (fun hc => ?_) (fun hc => ?_)
  · replace h := ct hc h
    refine wc_skip ?_
    refine wx_then ?_
    refine wc_seq ?_
    refine wc_block ?_
    refine wc_seq ?_
    refine wc_region ?_
    refine wl_pure tt_ok rfl rfl ?_
    refine wl_pure (v := .pointer (some ⟨b1, 2, none⟩)) tt_ok rfl rfl ?_
    rcases Bool.eq_false_or_eq_true (j9_4 == (0 : Int)) with hx150 | hx150
    · replace h := ct hx150 h
      refine wl_val (v := .pointer (some ⟨b1, 2, none⟩)) (val_ia (j := 0) tt_ok rfl rfl rfl rfl (by simpa using hx150) rfl rfl) rfl ?_
      refine wl_val (v := .agg #[.int .i32 j9_n1_f2.1.X, .int .i32 j9_n1_f2.1.Y, .int .i32 j9_n1_f2.1.VX, .int .i32 j9_n1_f2.1.VY, .int .u8 j9_n1_f2.1.Health, .int .u8 j9_n1_f2.1.Cool, .int .u8 j9_n1_f2.1.Face]) (val_load tt_ok rfl (List.Mem.head _) rfl) rfl ?_
      refine wl_alloc tt_ok rfl rfl (fun b5 => ?_)
      apply wl_store tt_ok; rfl; exact Upd.here; rfl; rfl; rfl; rfl; rfl; rfl
      refine wl_nil ?_
      refine wx_then ?_
      refine wc_seq ?_
      refine wc_k2 (Ls := (⟨b1, [.int .u64 p0.Frame, .int .u64 p0.Seed, .int .i32 j9_n1_f2.1.X, .int .i32 j9_n1_f2.1.Y, .int .i32 j9_n1_f2.1.VX, .int .i32 j9_n1_f2.1.VY, .int .u8 j9_n1_f2.1.Health, .int .u8 j9_n1_f2.1.Cool, .int .u8 j9_n1_f2.1.Face, .int .i32 j9_n1_f2.2.X, .int .i32 j9_n1_f2.2.Y, .int .i32 j9_n1_f2.2.VX, .int .i32 j9_n1_f2.2.VY, .int .u8 j9_n1_f2.2.Health, .int .u8 j9_n1_f2.2.Cool, .int .u8 j9_n1_f2.2.Face, .slice p0a0 p0n0 p0c0, .int .u16 p0.Score.1, .int .u16 p0.Score.2], 30, (0, 0)⟩ :: (⟨b2, [.int .u64 (0 : Int), .int .u64 (0 : Int), .int .i32 (0 : Int), .int .i32 (0 : Int), .int .i32 (0 : Int), .int .i32 (0 : Int), .int .u8 (0 : Int), .int .u8 (0 : Int), .int .u8 (0 : Int), .int .i32 (0 : Int), .int .i32 (0 : Int), .int .i32 (0 : Int), .int .i32 (0 : Int), .int .u8 (0 : Int), .int .u8 (0 : Int), .int .u8 (0 : Int), .slice none 0 0, .int .u16 (0 : Int), .int .u16 (0 : Int)], 30, (0, 0)⟩ :: (⟨b3, [.int .i32 p0.Players.1.X, .int .i32 p0.Players.1.Y, .int .i32 p0.Players.1.VX, .int .i32 p0.Players.1.VY, .int .u8 p0.Players.1.Health, .int .u8 p0.Players.1.Cool, .int .u8 p0.Players.1.Face, .int .i32 p0.Players.2.X, .int .i32 p0.Players.2.Y, .int .i32 p0.Players.2.VX, .int .i32 p0.Players.2.VY, .int .u8 p0.Players.2.Health, .int .u8 p0.Players.2.Cool, .int .u8 p0.Players.2.Face], 25, (0, 0)⟩ :: (p0B0 ++ []))))) [8, 13, 14, 15] [14, 15] [0, 1, 3, 7, 0, 16, 48, 112, 255, 511, 1023, 1023, 2047, 6143, 16383, 32767] [0, 1, 2, 3, 4, 5, 6, 7, 8, 9, 10, 11, 12, 13, 14, 15] (by kernel_rfl) (by kernel_rfl) (by kernel_rfl) ?_
      refine k_val rfl rfl rfl (pSub (pCons (Sel.sc Sel.hc) (pCons (Sel.sc Sel.hc) (pCons (Sel.sc Sel.hc) (pApp (Sel.sc Sel.ha) pNil))))) (stepV_ok tt_ok rfl) rfl ?_
      refine k_val (v := .pointer (some ⟨b3, 0, none⟩)) rfl rfl rfl (pSub (pCons (Sel.sc Sel.hc) (pCons (Sel.sc Sel.hc) (pCons (Sel.sc Sel.hc) (pApp (Sel.sc Sel.ha) pNil))))) (val_ia (j := 0) tt_ok rfl rfl rfl rfl (by simpa using hx150) rfl rfl) rfl ?_
      refine k_val (v := .pointer (some ⟨b3, 0, none⟩)) rfl rfl rfl (pSub (pCons (Sel.sc Sel.hc) (pCons (Sel.sc Sel.hc) (pCons (Sel.sc Sel.hc) (pApp (Sel.sc Sel.ha) pNil))))) (stepV_ok tt_ok rfl) rfl ?_
      refine k_val (v := .int .i32 p0.Players.1.X) rfl rfl rfl (pSub (pCons (Sel.sc Sel.hc) (pCons (Sel.sc Sel.hc) (pCons (Sel.sc Sel.hc) (pApp (Sel.sc Sel.ha) pNil))))) (val_load tt_ok rfl (List.Mem.tail _ (List.Mem.tail _ (List.Mem.head _))) rfl) rfl ?_
      refine k_val rfl rfl rfl (pSub (pCons (Sel.sc Sel.hc) (pCons (Sel.sc Sel.hc) (pCons (Sel.sc Sel.hc) (pApp (Sel.sc Sel.ha) pNil))))) (stepV_ok tt_ok rfl) rfl ?_
      refine k_val (v := .pointer (some ⟨b3, 0, none⟩)) rfl rfl rfl (pSub (pCons (Sel.sc Sel.hc) (pCons (Sel.sc Sel.hc) (pCons (Sel.sc Sel.hc) (pApp (Sel.sc Sel.ha) pNil))))) (val_ia (j := 0) tt_ok rfl rfl rfl rfl (by simpa using hx150) rfl rfl) rfl ?_
      refine k_val (v := .pointer (some ⟨b3, 2, none⟩)) rfl rfl rfl (pSub (pCons (Sel.sc Sel.hc) (pCons (Sel.sc Sel.hc) (pCons (Sel.sc Sel.hc) (pApp (Sel.sc Sel.ha) pNil))))) (stepV_ok tt_ok rfl) rfl ?_
      refine k_val (v := .int .i32 p0.Players.1.VX) rfl rfl rfl (pSub (pCons (Sel.sc Sel.hc) (pCons (Sel.sc Sel.hc) (pCons (Sel.sc Sel.hc) (pApp (Sel.sc Sel.ha) pNil))))) (val_load tt_ok rfl (List.Mem.tail _ (List.Mem.tail _ (List.Mem.head _))) rfl) rfl ?_
      replace h := bsome h; obtain ⟨⟨v26_0, v26_1⟩, x26, h⟩ := h; try dsimp only at h
      refine k_cq rfl rfl rfl Tryd.call75 rfl rfl rfl (q_pf (k_hindcastref07_Move x26) (fun _ _ => trivial)) rfl (pSub (pCons (Sel.sc Sel.hc) (pCons (Sel.sc Sel.hc) (pCons (Sel.sc Sel.hc) (pApp (Sel.sc Sel.ha) pNil))))) ?_
      refine k_val rfl rfl rfl (pSub (pCons (Sel.sc Sel.hc) (pCons (Sel.sc Sel.hc) (pCons (Sel.sc Sel.hc) (pApp (Sel.sc Sel.ha) pNil))))) (stepV_ok tt_ok rfl) rfl ?_
      refine k_val rfl rfl rfl (pSub (pCons (Sel.sc Sel.hc) (pCons (Sel.sc Sel.hc) (pCons (Sel.sc Sel.hc) (pApp (Sel.sc Sel.ha) pNil))))) (stepV_ok tt_ok rfl) rfl ?_
      refine k_val rfl rfl rfl (pSub (pCons (Sel.sc Sel.hc) (pCons (Sel.sc Sel.hc) (pCons (Sel.sc Sel.hc) (pApp (Sel.sc Sel.ha) pNil))))) (stepV_ok tt_ok rfl) rfl ?_
      refine k_val (v := .pointer (some ⟨b5, 0, none⟩)) rfl rfl rfl (pSub (pCons (Sel.sc Sel.hc) (pCons (Sel.sc Sel.hc) (pCons (Sel.sc Sel.hc) (pApp (Sel.sc Sel.ha) pNil))))) (stepV_ok tt_ok rfl) rfl ?_
      refine k_chg0 rfl rfl rfl (chg_store tt_ok rfl Upd.here rfl rfl rfl rfl rfl rfl) (.inr (by rintro _ _ rfl; exact ⟨_, (pCons (Sel.sc Sel.hc) (pCons (Sel.sc Sel.hc) (pCons (Sel.sc Sel.hc) (pApp (Sel.sc Sel.ha) pNil))))⟩)) ?_
      rintro _ _ rfl
      refine k_chg rfl rfl rfl (Chg.of_val (v := .pointer (some ⟨b5, 2, none⟩)) (stepV_ok tt_ok rfl)) rfl (.inl rfl) ?_
      rintro _ _ ⟨rfl, rfl⟩
      refine k_chg0 rfl rfl rfl (chg_store tt_ok rfl Upd.here rfl rfl rfl rfl rfl rfl) (.inl rfl) ?_
      rintro _ _ rfl
      refine k_end (by kernel_rfl) ?_
      refine wx_then ?_
      refine wc_seq ?_
      refine wc_k2 (Ls := (⟨b1, [.int .u64 p0.Frame, .int .u64 p0.Seed, .int .i32 j9_n1_f2.1.X, .int .i32 j9_n1_f2.1.Y, .int .i32 j9_n1_f2.1.VX, .int .i32 j9_n1_f2.1.VY, .int .u8 j9_n1_f2.1.Health, .int .u8 j9_n1_f2.1.Cool, .int .u8 j9_n1_f2.1.Face, .int .i32 j9_n1_f2.2.X, .int .i32 j9_n1_f2.2.Y, .int .i32 j9_n1_f2.2.VX, .int .i32 j9_n1_f2.2.VY, .int .u8 j9_n1_f2.2.Health, .int .u8 j9_n1_f2.2.Cool, .int .u8 j9_n1_f2.2.Face, .slice p0a0 p0n0 p0c0, .int .u16 p0.Score.1, .int .u16 p0.Score.2], 30, (0, 0)⟩ :: (⟨b2, [.int .u64 (0 : Int), .int .u64 (0 : Int), .int .i32 (0 : Int), .int .i32 (0 : Int), .int .i32 (0 : Int), .int .i32 (0 : Int), .int .u8 (0 : Int), .int .u8 (0 : Int), .int .u8 (0 : Int), .int .i32 (0 : Int), .int .i32 (0 : Int), .int .i32 (0 : Int), .int .i32 (0 : Int), .int .u8 (0 : Int), .int .u8 (0 : Int), .int .u8 (0 : Int), .slice none 0 0, .int .u16 (0 : Int), .int .u16 (0 : Int)], 30, (0, 0)⟩ :: (⟨b3, [.int .i32 p0.Players.1.X, .int .i32 p0.Players.1.Y, .int .i32 p0.Players.1.VX, .int .i32 p0.Players.1.VY, .int .u8 p0.Players.1.Health, .int .u8 p0.Players.1.Cool, .int .u8 p0.Players.1.Face, .int .i32 p0.Players.2.X, .int .i32 p0.Players.2.Y, .int .i32 p0.Players.2.VX, .int .i32 p0.Players.2.VY, .int .u8 p0.Players.2.Health, .int .u8 p0.Players.2.Cool, .int .u8 p0.Players.2.Face], 25, (0, 0)⟩ :: (p0B0 ++ []))))) [8, 13, 14, 15] [14, 15] [0, 1, 3, 7, 0, 16, 48, 112, 255, 511, 1023, 1023, 2047, 6143, 16383, 32767] [0, 1, 2, 3, 4, 5, 6, 7, 8, 9, 10, 11, 12, 13, 14, 15] (by kernel_rfl) (by kernel_rfl) (by kernel_rfl) ?_
      refine k_val rfl rfl rfl (pSub (pCons (Sel.sc Sel.hc) (pCons (Sel.sc Sel.hc) (pCons (Sel.sc Sel.hc) (pApp (Sel.sc Sel.ha) pNil))))) (stepV_ok tt_ok rfl) rfl ?_
      refine k_val (v := .pointer (some ⟨b3, 0, none⟩)) rfl rfl rfl (pSub (pCons (Sel.sc Sel.hc) (pCons (Sel.sc Sel.hc) (pCons (Sel.sc Sel.hc) (pApp (Sel.sc Sel.ha) pNil))))) (val_ia (j := 0) tt_ok rfl rfl rfl rfl (by simpa using hx150) rfl rfl) rfl ?_
      refine k_val (v := .pointer (some ⟨b3, 1, none⟩)) rfl rfl rfl (pSub (pCons (Sel.sc Sel.hc) (pCons (Sel.sc Sel.hc) (pCons (Sel.sc Sel.hc) (pApp (Sel.sc Sel.ha) pNil))))) (stepV_ok tt_ok rfl) rfl ?_
      refine k_val (v := .int .i32 p0.Players.1.Y) rfl rfl rfl (pSub (pCons (Sel.sc Sel.hc) (pCons (Sel.sc Sel.hc) (pCons (Sel.sc Sel.hc) (pApp (Sel.sc Sel.ha) pNil))))) (val_load tt_ok rfl (List.Mem.tail _ (List.Mem.tail _ (List.Mem.head _))) rfl) rfl ?_
      refine k_val rfl rfl rfl (pSub (pCons (Sel.sc Sel.hc) (pCons (Sel.sc Sel.hc) (pCons (Sel.sc Sel.hc) (pApp (Sel.sc Sel.ha) pNil))))) (stepV_ok tt_ok rfl) rfl ?_
      refine k_val (v := .pointer (some ⟨b3, 0, none⟩)) rfl rfl rfl (pSub (pCons (Sel.sc Sel.hc) (pCons (Sel.sc Sel.hc) (pCons (Sel.sc Sel.hc) (pApp (Sel.sc Sel.ha) pNil))))) (val_ia (j := 0) tt_ok rfl rfl rfl rfl (by simpa using hx150) rfl rfl) rfl ?_
      refine k_val (v := .pointer (some ⟨b3, 3, none⟩)) rfl rfl rfl (pSub (pCons (Sel.sc Sel.hc) (pCons (Sel.sc Sel.hc) (pCons (Sel.sc Sel.hc) (pApp (Sel.sc Sel.ha) pNil))))) (stepV_ok tt_ok rfl) rfl ?_
      refine k_val (v := .int .i32 p0.Players.1.VY) rfl rfl rfl (pSub (pCons (Sel.sc Sel.hc) (pCons (Sel.sc Sel.hc) (pCons (Sel.sc Sel.hc) (pApp (Sel.sc Sel.ha) pNil))))) (val_load tt_ok rfl (List.Mem.tail _ (List.Mem.tail _ (List.Mem.head _))) rfl) rfl ?_
      replace h := bsome h; obtain ⟨⟨v40_0, v40_1⟩, x40, h⟩ := h; try dsimp only at h
      refine k_cq rfl rfl rfl Tryd.call75 rfl rfl rfl (q_pf (k_hindcastref07_Move x40) (fun _ _ => trivial)) rfl (pSub (pCons (Sel.sc Sel.hc) (pCons (Sel.sc Sel.hc) (pCons (Sel.sc Sel.hc) (pApp (Sel.sc Sel.ha) pNil))))) ?_
      refine k_val rfl rfl rfl (pSub (pCons (Sel.sc Sel.hc) (pCons (Sel.sc Sel.hc) (pCons (Sel.sc Sel.hc) (pApp (Sel.sc Sel.ha) pNil))))) (stepV_ok tt_ok rfl) rfl ?_
      refine k_val rfl rfl rfl (pSub (pCons (Sel.sc Sel.hc) (pCons (Sel.sc Sel.hc) (pCons (Sel.sc Sel.hc) (pApp (Sel.sc Sel.ha) pNil))))) (stepV_ok tt_ok rfl) rfl ?_
      refine k_val rfl rfl rfl (pSub (pCons (Sel.sc Sel.hc) (pCons (Sel.sc Sel.hc) (pCons (Sel.sc Sel.hc) (pApp (Sel.sc Sel.ha) pNil))))) (stepV_ok tt_ok rfl) rfl ?_
      refine k_val (v := .pointer (some ⟨b5, 1, none⟩)) rfl rfl rfl (pSub (pCons (Sel.sc Sel.hc) (pCons (Sel.sc Sel.hc) (pCons (Sel.sc Sel.hc) (pApp (Sel.sc Sel.ha) pNil))))) (stepV_ok tt_ok rfl) rfl ?_
      refine k_chg0 rfl rfl rfl (chg_store tt_ok rfl Upd.here rfl rfl rfl rfl rfl rfl) (.inr (by rintro _ _ rfl; exact ⟨_, (pCons (Sel.sc Sel.hc) (pCons (Sel.sc Sel.hc) (pCons (Sel.sc Sel.hc) (pApp (Sel.sc Sel.ha) pNil))))⟩)) ?_
      rintro _ _ rfl
      refine k_chg rfl rfl rfl (Chg.of_val (v := .pointer (some ⟨b5, 3, none⟩)) (stepV_ok tt_ok rfl)) rfl (.inl rfl) ?_
      rintro _ _ ⟨rfl, rfl⟩
      refine k_chg0 rfl rfl rfl (chg_store tt_ok rfl Upd.here rfl rfl rfl rfl rfl rfl) (.inl rfl) ?_
      rintro _ _ rfl
      refine k_end (by kernel_rfl) ?_
      refine wx_then ?_
      refine wc_region ?_
      refine wl_pure tt_ok rfl rfl ?_
      refine wl_val (v := .agg #[.int .i32 v26_0, .int .i32 v40_0, .int .i32 v26_1, .int .i32 v40_1, .int .u8 j9_n1_f2.1.Health, .int .u8 j9_n1_f2.1.Cool, .int .u8 j9_n1_f2.1.Face]) (val_load tt_ok rfl (List.Mem.head _) rfl) rfl ?_
      refine wl_pure (v := .pointer (some ⟨b1, 2, none⟩)) tt_ok rfl rfl ?_
      refine wl_val (v := .pointer (some ⟨b1, 2, none⟩)) (val_ia (j := 0) tt_ok rfl rfl rfl rfl (by simpa using hx150) rfl rfl) rfl ?_
      apply wl_store tt_ok; rfl; exact (Upd.there Upd.here); rfl; rfl; rfl; rfl; rfl; rfl
      refine wl_nil ?_
      refine wx_block ?_
      refine wx_then ?_
      refine wc_region ?_
      refine wl_pure tt_ok rfl rfl ?_
      refine wl_pure (v := .int .i64 (IntKind.wrap .i64 (j9_4 + (1 : Int)))) tt_ok rfl rfl ?_
      refine wl_pure tt_ok rfl rfl ?_
      refine wl_nil ?_
      exact wx_round m9 (Nat.lt_succ_self m9) ⟨(IntKind.wrap .i64 (j9_4 + (1 : Int))), ((T_api_Player.mk v26_0 v40_0 v26_1 v40_1 j9_n1_f2.1.Health j9_n1_f2.1.Cool j9_n1_f2.1.Face), j9_n1_f2.2), h, rfl, rfl⟩ (agree_cons rfl (agree_cons rfl (agree_cons rfl (agree_cons rfl agree_nil)))) (pSub (pCons (Sel.sc Sel.hc) (pCons (Sel.sc Sel.hc) (pCons (Sel.sc Sel.hc) (pApp (Sel.sc Sel.ha) pNil)))))
    replace h := cf hx150 h
    rcases Bool.eq_false_or_eq_true (j9_4 == (1 : Int)) with hx151 | hx151
    · replace h := ct hx151 h
      refine wl_val (v := .pointer (some ⟨b1, 9, none⟩)) (val_ia (j := 1) tt_ok rfl rfl rfl rfl (by simpa using hx151) rfl rfl) rfl ?_
      refine wl_val (v := .agg #[.int .i32 j9_n1_f2.2.X, .int .i32 j9_n1_f2.2.Y, .int .i32 j9_n1_f2.2.VX, .int .i32 j9_n1_f2.2.VY, .int .u8 j9_n1_f2.2.Health, .int .u8 j9_n1_f2.2.Cool, .int .u8 j9_n1_f2.2.Face]) (val_load tt_ok rfl (List.Mem.head _) rfl) rfl ?_
      refine wl_alloc tt_ok rfl rfl (fun b5 => ?_)
      apply wl_store tt_ok; rfl; exact Upd.here; rfl; rfl; rfl; rfl; rfl; rfl
      refine wl_nil ?_
      refine wx_then ?_
      refine wc_seq ?_
      refine wc_k2 (Ls := (⟨b1, [.int .u64 p0.Frame, .int .u64 p0.Seed, .int .i32 j9_n1_f2.1.X, .int .i32 j9_n1_f2.1.Y, .int .i32 j9_n1_f2.1.VX, .int .i32 j9_n1_f2.1.VY, .int .u8 j9_n1_f2.1.Health, .int .u8 j9_n1_f2.1.Cool, .int .u8 j9_n1_f2.1.Face, .int .i32 j9_n1_f2.2.X, .int .i32 j9_n1_f2.2.Y, .int .i32 j9_n1_f2.2.VX, .int .i32 j9_n1_f2.2.VY, .int .u8 j9_n1_f2.2.Health, .int .u8 j9_n1_f2.2.Cool, .int .u8 j9_n1_f2.2.Face, .slice p0a0 p0n0 p0c0, .int .u16 p0.Score.1, .int .u16 p0.Score.2], 30, (0, 0)⟩ :: (⟨b2, [.int .u64 (0 : Int), .int .u64 (0 : Int), .int .i32 (0 : Int), .int .i32 (0 : Int), .int .i32 (0 : Int), .int .i32 (0 : Int), .int .u8 (0 : Int), .int .u8 (0 : Int), .int .u8 (0 : Int), .int .i32 (0 : Int), .int .i32 (0 : Int), .int .i32 (0 : Int), .int .i32 (0 : Int), .int .u8 (0 : Int), .int .u8 (0 : Int), .int .u8 (0 : Int), .slice none 0 0, .int .u16 (0 : Int), .int .u16 (0 : Int)], 30, (0, 0)⟩ :: (⟨b3, [.int .i32 p0.Players.1.X, .int .i32 p0.Players.1.Y, .int .i32 p0.Players.1.VX, .int .i32 p0.Players.1.VY, .int .u8 p0.Players.1.Health, .int .u8 p0.Players.1.Cool, .int .u8 p0.Players.1.Face, .int .i32 p0.Players.2.X, .int .i32 p0.Players.2.Y, .int .i32 p0.Players.2.VX, .int .i32 p0.Players.2.VY, .int .u8 p0.Players.2.Health, .int .u8 p0.Players.2.Cool, .int .u8 p0.Players.2.Face], 25, (0, 0)⟩ :: (p0B0 ++ []))))) [8, 13, 14, 15] [14, 15] [0, 1, 3, 7, 0, 16, 48, 112, 255, 511, 1023, 1023, 2047, 6143, 16383, 32767] [0, 1, 2, 3, 4, 5, 6, 7, 8, 9, 10, 11, 12, 13, 14, 15] (by kernel_rfl) (by kernel_rfl) (by kernel_rfl) ?_
      refine k_val rfl rfl rfl (pSub (pCons (Sel.sc Sel.hc) (pCons (Sel.sc Sel.hc) (pCons (Sel.sc Sel.hc) (pApp (Sel.sc Sel.ha) pNil))))) (stepV_ok tt_ok rfl) rfl ?_
      refine k_val (v := .pointer (some ⟨b3, 7, none⟩)) rfl rfl rfl (pSub (pCons (Sel.sc Sel.hc) (pCons (Sel.sc Sel.hc) (pCons (Sel.sc Sel.hc) (pApp (Sel.sc Sel.ha) pNil))))) (val_ia (j := 1) tt_ok rfl rfl rfl rfl (by simpa using hx151) rfl rfl) rfl ?_
      refine k_val (v := .pointer (some ⟨b3, 7, none⟩)) rfl rfl rfl (pSub (pCons (Sel.sc Sel.hc) (pCons (Sel.sc Sel.hc) (pCons (Sel.sc Sel.hc) (pApp (Sel.sc Sel.ha) pNil))))) (stepV_ok tt_ok rfl) rfl ?_
      refine k_val (v := .int .i32 p0.Players.2.X) rfl rfl rfl (pSub (pCons (Sel.sc Sel.hc) (pCons (Sel.sc Sel.hc) (pCons (Sel.sc Sel.hc) (pApp (Sel.sc Sel.ha) pNil))))) (val_load tt_ok rfl (List.Mem.tail _ (List.Mem.tail _ (List.Mem.head _))) rfl) rfl ?_
      refine k_val rfl rfl rfl (pSub (pCons (Sel.sc Sel.hc) (pCons (Sel.sc Sel.hc) (pCons (Sel.sc Sel.hc) (pApp (Sel.sc Sel.ha) pNil))))) (stepV_ok tt_ok rfl) rfl ?_
      refine k_val (v := .pointer (some ⟨b3, 7, none⟩)) rfl rfl rfl (pSub (pCons (Sel.sc Sel.hc) (pCons (Sel.sc Sel.hc) (pCons (Sel.sc Sel.hc) (pApp (Sel.sc Sel.ha) pNil))))) (val_ia (j := 1) tt_ok rfl rfl rfl rfl (by simpa using hx151) rfl rfl) rfl ?_
      refine k_val (v := .pointer (some ⟨b3, 9, none⟩)) rfl rfl rfl (pSub (pCons (Sel.sc Sel.hc) (pCons (Sel.sc Sel.hc) (pCons (Sel.sc Sel.hc) (pApp (Sel.sc Sel.ha) pNil))))) (stepV_ok tt_ok rfl) rfl ?_
      refine k_val (v := .int .i32 p0.Players.2.VX) rfl rfl rfl (pSub (pCons (Sel.sc Sel.hc) (pCons (Sel.sc Sel.hc) (pCons (Sel.sc Sel.hc) (pApp (Sel.sc Sel.ha) pNil))))) (val_load tt_ok rfl (List.Mem.tail _ (List.Mem.tail _ (List.Mem.head _))) rfl) rfl ?_
      replace h := bsome h; obtain ⟨⟨v26_0, v26_1⟩, x26, h⟩ := h; try dsimp only at h
      refine k_cq rfl rfl rfl Tryd.call75 rfl rfl rfl (q_pf (k_hindcastref07_Move x26) (fun _ _ => trivial)) rfl (pSub (pCons (Sel.sc Sel.hc) (pCons (Sel.sc Sel.hc) (pCons (Sel.sc Sel.hc) (pApp (Sel.sc Sel.ha) pNil))))) ?_
      refine k_val rfl rfl rfl (pSub (pCons (Sel.sc Sel.hc) (pCons (Sel.sc Sel.hc) (pCons (Sel.sc Sel.hc) (pApp (Sel.sc Sel.ha) pNil))))) (stepV_ok tt_ok rfl) rfl ?_
      refine k_val rfl rfl rfl (pSub (pCons (Sel.sc Sel.hc) (pCons (Sel.sc Sel.hc) (pCons (Sel.sc Sel.hc) (pApp (Sel.sc Sel.ha) pNil))))) (stepV_ok tt_ok rfl) rfl ?_
      refine k_val rfl rfl rfl (pSub (pCons (Sel.sc Sel.hc) (pCons (Sel.sc Sel.hc) (pCons (Sel.sc Sel.hc) (pApp (Sel.sc Sel.ha) pNil))))) (stepV_ok tt_ok rfl) rfl ?_
      refine k_val (v := .pointer (some ⟨b5, 0, none⟩)) rfl rfl rfl (pSub (pCons (Sel.sc Sel.hc) (pCons (Sel.sc Sel.hc) (pCons (Sel.sc Sel.hc) (pApp (Sel.sc Sel.ha) pNil))))) (stepV_ok tt_ok rfl) rfl ?_
      refine k_chg0 rfl rfl rfl (chg_store tt_ok rfl Upd.here rfl rfl rfl rfl rfl rfl) (.inr (by rintro _ _ rfl; exact ⟨_, (pCons (Sel.sc Sel.hc) (pCons (Sel.sc Sel.hc) (pCons (Sel.sc Sel.hc) (pApp (Sel.sc Sel.ha) pNil))))⟩)) ?_
      rintro _ _ rfl
      refine k_chg rfl rfl rfl (Chg.of_val (v := .pointer (some ⟨b5, 2, none⟩)) (stepV_ok tt_ok rfl)) rfl (.inl rfl) ?_
      rintro _ _ ⟨rfl, rfl⟩
      refine k_chg0 rfl rfl rfl (chg_store tt_ok rfl Upd.here rfl rfl rfl rfl rfl rfl) (.inl rfl) ?_
      rintro _ _ rfl
      refine k_end (by kernel_rfl) ?_
      refine wx_then ?_
      refine wc_seq ?_
      refine wc_k2 (Ls := (⟨b1, [.int .u64 p0.Frame, .int .u64 p0.Seed, .int .i32 j9_n1_f2.1.X, .int .i32 j9_n1_f2.1.Y, .int .i32 j9_n1_f2.1.VX, .int .i32 j9_n1_f2.1.VY, .int .u8 j9_n1_f2.1.Health, .int .u8 j9_n1_f2.1.Cool, .int .u8 j9_n1_f2.1.Face, .int .i32 j9_n1_f2.2.X, .int .i32 j9_n1_f2.2.Y, .int .i32 j9_n1_f2.2.VX, .int .i32 j9_n1_f2.2.VY, .int .u8 j9_n1_f2.2.Health, .int .u8 j9_n1_f2.2.Cool, .int .u8 j9_n1_f2.2.Face, .slice p0a0 p0n0 p0c0, .int .u16 p0.Score.1, .int .u16 p0.Score.2], 30, (0, 0)⟩ :: (⟨b2, [.int .u64 (0 : Int), .int .u64 (0 : Int), .int .i32 (0 : Int), .int .i32 (0 : Int), .int .i32 (0 : Int), .int .i32 (0 : Int), .int .u8 (0 : Int), .int .u8 (0 : Int), .int .u8 (0 : Int), .int .i32 (0 : Int), .int .i32 (0 : Int), .int .i32 (0 : Int), .int .i32 (0 : Int), .int .u8 (0 : Int), .int .u8 (0 : Int), .int .u8 (0 : Int), .slice none 0 0, .int .u16 (0 : Int), .int .u16 (0 : Int)], 30, (0, 0)⟩ :: (⟨b3, [.int .i32 p0.Players.1.X, .int .i32 p0.Players.1.Y, .int .i32 p0.Players.1.VX, .int .i32 p0.Players.1.VY, .int .u8 p0.Players.1.Health, .int .u8 p0.Players.1.Cool, .int .u8 p0.Players.1.Face, .int .i32 p0.Players.2.X, .int .i32 p0.Players.2.Y, .int .i32 p0.Players.2.VX, .int .i32 p0.Players.2.VY, .int .u8 p0.Players.2.Health, .int .u8 p0.Players.2.Cool, .int .u8 p0.Players.2.Face], 25, (0, 0)⟩ :: (p0B0 ++ []))))) [8, 13, 14, 15] [14, 15] [0, 1, 3, 7, 0, 16, 48, 112, 255, 511, 1023, 1023, 2047, 6143, 16383, 32767] [0, 1, 2, 3, 4, 5, 6, 7, 8, 9, 10, 11, 12, 13, 14, 15] (by kernel_rfl) (by kernel_rfl) (by kernel_rfl) ?_
      refine k_val rfl rfl rfl (pSub (pCons (Sel.sc Sel.hc) (pCons (Sel.sc Sel.hc) (pCons (Sel.sc Sel.hc) (pApp (Sel.sc Sel.ha) pNil))))) (stepV_ok tt_ok rfl) rfl ?_
      refine k_val (v := .pointer (some ⟨b3, 7, none⟩)) rfl rfl rfl (pSub (pCons (Sel.sc Sel.hc) (pCons (Sel.sc Sel.hc) (pCons (Sel.sc Sel.hc) (pApp (Sel.sc Sel.ha) pNil))))) (val_ia (j := 1) tt_ok rfl rfl rfl rfl (by simpa using hx151) rfl rfl) rfl ?_
      refine k_val (v := .pointer (some ⟨b3, 8, none⟩)) rfl rfl rfl (pSub (pCons (Sel.sc Sel.hc) (pCons (Sel.sc Sel.hc) (pCons (Sel.sc Sel.hc) (pApp (Sel.sc Sel.ha) pNil))))) (stepV_ok tt_ok rfl) rfl ?_
      refine k_val (v := .int .i32 p0.Players.2.Y) rfl rfl rfl (pSub (pCons (Sel.sc Sel.hc) (pCons (Sel.sc Sel.hc) (pCons (Sel.sc Sel.hc) (pApp (Sel.sc Sel.ha) pNil))))) (val_load tt_ok rfl (List.Mem.tail _ (List.Mem.tail _ (List.Mem.head _))) rfl) rfl ?_
      refine k_val rfl rfl rfl (pSub (pCons (Sel.sc Sel.hc) (pCons (Sel.sc Sel.hc) (pCons (Sel.sc Sel.hc) (pApp (Sel.sc Sel.ha) pNil))))) (stepV_ok tt_ok rfl) rfl ?_
      refine k_val (v := .pointer (some ⟨b3, 7, none⟩)) rfl rfl rfl (pSub (pCons (Sel.sc Sel.hc) (pCons (Sel.sc Sel.hc) (pCons (Sel.sc Sel.hc) (pApp (Sel.sc Sel.ha) pNil))))) (val_ia (j := 1) tt_ok rfl rfl rfl rfl (by simpa using hx151) rfl rfl) rfl ?_
      refine k_val (v := .pointer (some ⟨b3, 10, none⟩)) rfl rfl rfl (pSub (pCons (Sel.sc Sel.hc) (pCons (Sel.sc Sel.hc) (pCons (Sel.sc Sel.hc) (pApp (Sel.sc Sel.ha) pNil))))) (stepV_ok tt_ok rfl) rfl ?_
      refine k_val (v := .int .i32 p0.Players.2.VY) rfl rfl rfl (pSub (pCons (Sel.sc Sel.hc) (pCons (Sel.sc Sel.hc) (pCons (Sel.sc Sel.hc) (pApp (Sel.sc Sel.ha) pNil))))) (val_load tt_ok rfl (List.Mem.tail _ (List.Mem.tail _ (List.Mem.head _))) rfl) rfl ?_
      replace h := bsome h; obtain ⟨⟨v40_0, v40_1⟩, x40, h⟩ := h; try dsimp only at h
      refine k_cq rfl rfl rfl Tryd.call75 rfl rfl rfl (q_pf (k_hindcastref07_Move x40) (fun _ _ => trivial)) rfl (pSub (pCons (Sel.sc Sel.hc) (pCons (Sel.sc Sel.hc) (pCons (Sel.sc Sel.hc) (pApp (Sel.sc Sel.ha) pNil))))) ?_
      refine k_val rfl rfl rfl (pSub (pCons (Sel.sc Sel.hc) (pCons (Sel.sc Sel.hc) (pCons (Sel.sc Sel.hc) (pApp (Sel.sc Sel.ha) pNil))))) (stepV_ok tt_ok rfl) rfl ?_
      refine k_val rfl rfl rfl (pSub (pCons (Sel.sc Sel.hc) (pCons (Sel.sc Sel.hc) (pCons (Sel.sc Sel.hc) (pApp (Sel.sc Sel.ha) pNil))))) (stepV_ok tt_ok rfl) rfl ?_
      refine k_val rfl rfl rfl (pSub (pCons (Sel.sc Sel.hc) (pCons (Sel.sc Sel.hc) (pCons (Sel.sc Sel.hc) (pApp (Sel.sc Sel.ha) pNil))))) (stepV_ok tt_ok rfl) rfl ?_
      refine k_val (v := .pointer (some ⟨b5, 1, none⟩)) rfl rfl rfl (pSub (pCons (Sel.sc Sel.hc) (pCons (Sel.sc Sel.hc) (pCons (Sel.sc Sel.hc) (pApp (Sel.sc Sel.ha) pNil))))) (stepV_ok tt_ok rfl) rfl ?_
      refine k_chg0 rfl rfl rfl (chg_store tt_ok rfl Upd.here rfl rfl rfl rfl rfl rfl) (.inr (by rintro _ _ rfl; exact ⟨_, (pCons (Sel.sc Sel.hc) (pCons (Sel.sc Sel.hc) (pCons (Sel.sc Sel.hc) (pApp (Sel.sc Sel.ha) pNil))))⟩)) ?_
      rintro _ _ rfl
      refine k_chg rfl rfl rfl (Chg.of_val (v := .pointer (some ⟨b5, 3, none⟩)) (stepV_ok tt_ok rfl)) rfl (.inl rfl) ?_
      rintro _ _ ⟨rfl, rfl⟩
      refine k_chg0 rfl rfl rfl (chg_store tt_ok rfl Upd.here rfl rfl rfl rfl rfl rfl) (.inl rfl) ?_
      rintro _ _ rfl
      refine k_end (by kernel_rfl) ?_
      refine wx_then ?_
      refine wc_region ?_
      refine wl_pure tt_ok rfl rfl ?_
      refine wl_val (v := .agg #[.int .i32 v26_0, .int .i32 v40_0, .int .i32 v26_1, .int .i32 v40_1, .int .u8 j9_n1_f2.2.Health, .int .u8 j9_n1_f2.2.Cool, .int .u8 j9_n1_f2.2.Face]) (val_load tt_ok rfl (List.Mem.head _) rfl) rfl ?_
      refine wl_pure (v := .pointer (some ⟨b1, 2, none⟩)) tt_ok rfl rfl ?_
      refine wl_val (v := .pointer (some ⟨b1, 9, none⟩)) (val_ia (j := 1) tt_ok rfl rfl rfl rfl (by simpa using hx151) rfl rfl) rfl ?_
      apply wl_store tt_ok; rfl; exact (Upd.there Upd.here); rfl; rfl; rfl; rfl; rfl; rfl
      refine wl_nil ?_
      refine wx_block ?_
      refine wx_then ?_
      refine wc_region ?_
      refine wl_pure tt_ok rfl rfl ?_
      refine wl_pure (v := .int .i64 (IntKind.wrap .i64 (j9_4 + (1 : Int)))) tt_ok rfl rfl ?_
      refine wl_pure tt_ok rfl rfl ?_
      refine wl_nil ?_
      exact wx_round m9 (Nat.lt_succ_self m9) ⟨(IntKind.wrap .i64 (j9_4 + (1 : Int))), (j9_n1_f2.1, (T_api_Player.mk v26_0 v40_0 v26_1 v40_1 j9_n1_f2.2.Health j9_n1_f2.2.Cool j9_n1_f2.2.Face)), h, rfl, rfl⟩ (agree_cons rfl (agree_cons rfl (agree_cons rfl (agree_cons rfl agree_nil)))) (pSub (pCons (Sel.sc Sel.hc) (pCons (Sel.sc Sel.hc) (pCons (Sel.sc Sel.hc) (pApp (Sel.sc Sel.ha) pNil)))))
    replace h := cf hx151 h
    cases h
  replace h := cf hc h
  refine wc_exit ?_
  refine wx_then_exit ?_
  simp only [Option.some.injEq] at h
  obtain rfl := h
  have h := hl9; clear hl9; try dsimp only [orE_l, orE_r] at h
  refine wx_then_exit ?_
  refine wx_block_exit ?_
  refine wx_then ?_
  refine wc_seq ?_
  refine wc_seq ?_
  refine wc_quiet (by kernel_rfl) (by kernel_rfl) ?_
  refine wq_pure (v := .pointer (some ⟨b1, 2, none⟩)) tt_ok rfl rfl ?_
  refine wq_val (v := .pointer (some ⟨b1, 2, none⟩)) (val_ia (j := 0) tt_ok rfl rfl rfl rfl rfl rfl rfl) rfl ?_
  refine wq_val (v := .agg #[.int .i32 j9_n1_f2.1.X, .int .i32 j9_n1_f2.1.Y, .int .i32 j9_n1_f2.1.VX, .int .i32 j9_n1_f2.1.VY, .int .u8 j9_n1_f2.1.Health, .int .u8 j9_n1_f2.1.Cool, .int .u8 j9_n1_f2.1.Face]) (val_load tt_ok rfl (List.Mem.head _) rfl) rfl ?_
  replace h := bsome h; obtain ⟨v52, x52, h⟩ := h
  refine wq_cq Tryd.call77 rfl rfl rfl (q_pf (k_hindcastref09_Box x52) (fun _ _ => trivial)) rfl ?_
  refine wq_pure (v := .pointer (some ⟨b1, 2, none⟩)) tt_ok rfl rfl ?_
  refine wq_val (v := .pointer (some ⟨b1, 9, none⟩)) (val_ia (j := 1) tt_ok rfl rfl rfl rfl rfl rfl rfl) rfl ?_
  refine wq_val (v := .agg #[.int .i32 j9_n1_f2.2.X, .int .i32 j9_n1_f2.2.Y, .int .i32 j9_n1_f2.2.VX, .int .i32 j9_n1_f2.2.VY, .int .u8 j9_n1_f2.2.Health, .int .u8 j9_n1_f2.2.Cool, .int .u8 j9_n1_f2.2.Face]) (val_load tt_ok rfl (List.Mem.head _) rfl) rfl ?_
  replace h := bsome h; obtain ⟨v56, x56, h⟩ := h
  refine wq_cq Tryd.call77 rfl rfl rfl (q_pf (k_hindcastref09_Box x56) (fun _ _ => trivial)) rfl ?_
  replace h := bsome h; obtain ⟨v57, x57, h⟩ := h
  refine wq_cq Tryd.call76 rfl rfl rfl (q_pf (k_hindcastref07_Over x57) (fun _ _ => trivial)) rfl ?_
  refine wq_nil ?_
  refine wx_then ?_
  replace h := bsome h; obtain ⟨j29_n1_f2, h, hj29⟩ := h
  refine wc_join2 (fun E L => E = [(1, .pointer (some ⟨b1, 0, none⟩)), (2, .pointer (some ⟨b2, 0, none⟩))] ∧ L = (⟨b1, [.int .u64 p0.Frame, .int .u64 p0.Seed, .int .i32 j29_n1_f2.1.X, .int .i32 j29_n1_f2.1.Y, .int .i32 j29_n1_f2.1.VX, .int .i32 j29_n1_f2.1.VY, .int .u8 j29_n1_f2.1.Health, .int .u8 j29_n1_f2.1.Cool, .int .u8 j29_n1_f2.1.Face, .int .i32 j29_n1_f2.2.X, .int .i32 j29_n1_f2.2.Y, .int .i32 j29_n1_f2.2.VX, .int .i32 j29_n1_f2.2.VY, .int .u8 j29_n1_f2.2.Health, .int .u8 j29_n1_f2.2.Cool, .int .u8 j29_n1_f2.2.Face, .slice p0a0 p0n0 p0c0, .int .u16 p0.Score.1, .int .u16 p0.Score.2], 30, (0, 0)⟩ :: (⟨b2, [.int .u64 (0 : Int), .int .u64 (0 : Int), .int .i32 (0 : Int), .int .i32 (0 : Int), .int .i32 (0 : Int), .int .i32 (0 : Int), .int .u8 (0 : Int), .int .u8 (0 : Int), .int .u8 (0 : Int), .int .i32 (0 : Int), .int .i32 (0 : Int), .int .i32 (0 : Int), .int .i32 (0 : Int), .int .u8 (0 : Int), .int .u8 (0 : Int), .int .u8 (0 : Int), .slice none 0 0, .int .u16 (0 : Int), .int .u16 (0 : Int)], 30, (0, 0)⟩ :: (p0B0 ++ [])))) ?_ ?_
  · refine wc_cond rfl (fun hc => ?_) (fun hc => ?_)
    · replace h := ct hc h
      refine wc_seq ?_
      refine wc_region ?_
      refine wl_val (v := .agg #[.int .i32 p0.Players.1.X, .int .i32 p0.Players.1.Y, .int .i32 p0.Players.1.VX, .int .i32 p0.Players.1.VY, .int .u8 p0.Players.1.Health, .int .u8 p0.Players.1.Cool, .int .u8 p0.Players.1.Face, .int .i32 p0.Players.2.X, .int .i32 p0.Players.2.Y, .int .i32 p0.Players.2.VX, .int .i32 p0.Players.2.VY, .int .u8 p0.Players.2.Health, .int .u8 p0.Players.2.Cool, .int .u8 p0.Players.2.Face]) (val_load tt_ok rfl (List.Mem.tail _ (List.Mem.tail _ (List.Mem.head _))) rfl) rfl ?_
      refine wl_pure (v := .pointer (some ⟨b1, 2, none⟩)) tt_ok rfl rfl ?_
      apply wl_store tt_ok; rfl; exact Upd.here; rfl; rfl; rfl; rfl; rfl; rfl
      refine wl_nil ?_
      refine wx_then ?_
      refine wc_seq ?_
      refine wc_region ?_
      refine wl_pure tt_ok rfl rfl ?_
      refine wl_nil ?_
      refine wx_then ?_
      refine wc_block ?_
      replace h := bsome h; obtain ⟨l35_n1_f2, h, hl35⟩ := h
      refine wc_loop (fun m E L => ∃ (j35_6 : Int) (j35_n1_f2 : (T_api_Player × T_api_Player)), m_hindcastref09_three_o0_L34 F m j35_6 j35_n1_f2 = some l35_n1_f2 ∧ E = [(1, .pointer (some ⟨b1, 0, none⟩)), (2, .pointer (some ⟨b2, 0, none⟩)), (6, .int .i64 j35_6)] ∧ L = (⟨b1, [.int .u64 p0.Frame, .int .u64 p0.Seed, .int .i32 j35_n1_f2.1.X, .int .i32 j35_n1_f2.1.Y, .int .i32 j35_n1_f2.1.VX, .int .i32 j35_n1_f2.1.VY, .int .u8 j35_n1_f2.1.Health, .int .u8 j35_n1_f2.1.Cool, .int .u8 j35_n1_f2.1.Face, .int .i32 j35_n1_f2.2.X, .int .i32 j35_n1_f2.2.Y, .int .i32 j35_n1_f2.2.VX, .int .i32 j35_n1_f2.2.VY, .int .u8 j35_n1_f2.2.Health, .int .u8 j35_n1_f2.2.Cool, .int .u8 j35_n1_f2.2.Face, .slice p0a0 p0n0 p0c0, .int .u16 p0.Score.1, .int .u16 p0.Score.2], 30, (0, 0)⟩ :: (⟨b2, [.int .u64 (0 : Int), .int .u64 (0 : Int), .int .i32 (0 : Int), .int .i32 (0 : Int), .int .i32 (0 : Int), .int .i32 (0 : Int), .int .u8 (0 : Int), .int .u8 (0 : Int), .int .u8 (0 : Int), .int .i32 (0 : Int), .int .i32 (0 : Int), .int .i32 (0 : Int), .int .i32 (0 : Int), .int .u8 (0 : Int), .int .u8 (0 : Int), .int .u8 (0 : Int), .slice none 0 0, .int .u16 (0 : Int), .int .u16 (0 : Int)], 30, (0, 0)⟩ :: (p0B0 ++ [])))) F ⟨(0 : Int), p0.Players, h, rfl, rfl⟩ (agree_cons rfl (agree_cons rfl (agree_cons rfl agree_nil))) (pSub (pCons Sel.hc (pCons Sel.hc (pApp (Sel.sc Sel.ha) pNil)))) ?_
      clear h
      rintro m35 _ _ ⟨j35_6, j35_n1_f2, h, rfl, rfl⟩
      rcases m35 with _ | m35
      · rw [m_hindcastref09_three_o0_L34.eq_1] at h; cases h
      rw [m_hindcastref09_three_o0_L34.eq_2] at h
      refine wc_seq ?_
      refine wc_seq ?_
      refine wc_region ?_
      refine wl_pure tt_ok rfl rfl ?_
      refine wl_pure (v := .bool (decide (j35_6 < (2 : Int)))) tt_ok rfl rfl ?_
      refine wl_nil ?_
      refine wx_then ?_
      refine wc_cond rfl (fun hc => ?_) (fun hc => ?_)
      · replace h := ct hc h
        refine wc_skip ?_
        refine wx_then ?_
        refine wc_seq ?_
        refine wc_block ?_
        refine wc_seq ?_
        refine wc_region ?_
        refine wl_pure tt_ok rfl rfl ?_
        refine wl_pure (v := .pointer (some ⟨b1, 2, none⟩)) tt_ok rfl rfl ?_
        rcases Bool.eq_false_or_eq_true (j35_6 == (0 : Int)) with hx660 | hx660
        · replace h := ct hx660 h
          refine wl_val (v := .pointer (some ⟨b1, 2, none⟩)) (val_ia (j := 0) tt_ok rfl rfl rfl rfl (by simpa using hx660) rfl rfl) rfl ?_
          refine wl_pure (v := .pointer (some ⟨b1, 4, none⟩)) tt_ok rfl rfl ?_
          apply wl_store tt_ok; rfl; exact Upd.here; rfl; rfl; rfl; rfl; rfl; rfl
          refine wl_nil ?_
          refine wx_then ?_
          refine wc_region ?_
          refine wl_pure tt_ok rfl rfl ?_
          refine wl_pure (v := .pointer (some ⟨b1, 2, none⟩)) tt_ok rfl rfl ?_
          refine wl_val (v := .pointer (some ⟨b1, 2, none⟩)) (val_ia (j := 0) tt_ok rfl rfl rfl rfl (by simpa using hx660) rfl rfl) rfl ?_
          refine wl_pure (v := .pointer (some ⟨b1, 5, none⟩)) tt_ok rfl rfl ?_
          apply wl_store tt_ok; rfl; exact Upd.here; rfl; rfl; rfl; rfl; rfl; rfl
          refine wl_nil ?_
          refine wx_block ?_
          refine wx_then ?_
          refine wc_region ?_
          refine wl_pure tt_ok rfl rfl ?_
          refine wl_pure (v := .int .i64 (IntKind.wrap .i64 (j35_6 + (1 : Int)))) tt_ok rfl rfl ?_
          refine wl_pure tt_ok rfl rfl ?_
          refine wl_nil ?_
          exact wx_round m35 (Nat.lt_succ_self m35) ⟨(IntKind.wrap .i64 (j35_6 + (1 : Int))), ((T_api_Player.mk j35_n1_f2.1.X j35_n1_f2.1.Y (0 : Int) (0 : Int) j35_n1_f2.1.Health j35_n1_f2.1.Cool j35_n1_f2.1.Face), j35_n1_f2.2), h, rfl, rfl⟩ (agree_cons rfl (agree_cons rfl (agree_cons rfl agree_nil))) (pSub (pCons Sel.hc (pCons Sel.hc (pApp Sel.ha pNil))))
        replace h := cf hx660 h
        rcases Bool.eq_false_or_eq_true (j35_6 == (1 : Int)) with hx661 | hx661
        · replace h := ct hx661 h
          refine wl_val (v := .pointer (some ⟨b1, 9, none⟩)) (val_ia (j := 1) tt_ok rfl rfl rfl rfl (by simpa using hx661) rfl rfl) rfl ?_
          refine wl_pure (v := .pointer (some ⟨b1, 11, none⟩)) tt_ok rfl rfl ?_
          apply wl_store tt_ok; rfl; exact Upd.here; rfl; rfl; rfl; rfl; rfl; rfl
          refine wl_nil ?_
          refine wx_then ?_
          refine wc_region ?_
          refine wl_pure tt_ok rfl rfl ?_
          refine wl_pure (v := .pointer (some ⟨b1, 2, none⟩)) tt_ok rfl rfl ?_
          refine wl_val (v := .pointer (some ⟨b1, 9, none⟩)) (val_ia (j := 1) tt_ok rfl rfl rfl rfl (by simpa using hx661) rfl rfl) rfl ?_
          refine wl_pure (v := .pointer (some ⟨b1, 12, none⟩)) tt_ok rfl rfl ?_
          apply wl_store tt_ok; rfl; exact Upd.here; rfl; rfl; rfl; rfl; rfl; rfl
          refine wl_nil ?_
          refine wx_block ?_
          refine wx_then ?_
          refine wc_region ?_
          refine wl_pure tt_ok rfl rfl ?_
          refine wl_pure (v := .int .i64 (IntKind.wrap .i64 (j35_6 + (1 : Int)))) tt_ok rfl rfl ?_
          refine wl_pure tt_ok rfl rfl ?_
          refine wl_nil ?_
          exact wx_round m35 (Nat.lt_succ_self m35) ⟨(IntKind.wrap .i64 (j35_6 + (1 : Int))), (j35_n1_f2.1, (T_api_Player.mk j35_n1_f2.2.X j35_n1_f2.2.Y (0 : Int) (0 : Int) j35_n1_f2.2.Health j35_n1_f2.2.Cool j35_n1_f2.2.Face)), h, rfl, rfl⟩ (agree_cons rfl (agree_cons rfl (agree_cons rfl agree_nil))) (pSub (pCons Sel.hc (pCons Sel.hc (pApp Sel.ha pNil))))
        replace h := cf hx661 h
        cases h
      replace h := cf hc h
      refine wc_exit ?_
      refine wx_then_exit ?_
      simp only [Option.some.injEq] at h
      obtain rfl := h
      have h := hl35; clear hl35; try dsimp only [orE_l, orE_r] at h
      refine wx_then_exit ?_
      refine wx_block_exit ?_
      simp only [Option.some.injEq] at h
      obtain rfl := h
      exact wx_join ⟨rfl, rfl⟩ (agree_cons rfl (agree_cons rfl agree_nil)) (pSub (pCons Sel.hc (pCons Sel.hc (pApp Sel.ha pNil))))
    replace h := cf hc h
    refine wc_skip ?_
    simp only [Option.some.injEq] at h
    obtain rfl := h
    exact wx_join ⟨rfl, rfl⟩ (agree_cons rfl (agree_cons rfl agree_nil)) (pSub (pCons Sel.hc (pCons Sel.hc (pApp (Sel.sc Sel.ha) pNil))))
  rintro _ _ ⟨rfl, rfl⟩
  have h := hj29; clear hj29
  refine wc_seq ?_
  refine wc_region ?_
  refine wl_val (v := .agg #[.int .u64 p0.Frame, .int .u64 p0.Seed, .int .i32 j29_n1_f2.1.X, .int .i32 j29_n1_f2.1.Y, .int .i32 j29_n1_f2.1.VX, .int .i32 j29_n1_f2.1.VY, .int .u8 j29_n1_f2.1.Health, .int .u8 j29_n1_f2.1.Cool, .int .u8 j29_n1_f2.1.Face, .int .i32 j29_n1_f2.2.X, .int .i32 j29_n1_f2.2.Y, .int .i32 j29_n1_f2.2.VX, .int .i32 j29_n1_f2.2.VY, .int .u8 j29_n1_f2.2.Health, .int .u8 j29_n1_f2.2.Cool, .int .u8 j29_n1_f2.2.Face, .slice p0a0 p0n0 p0c0, .int .u16 p0.Score.1, .int .u16 p0.Score.2]) (val_load tt_ok rfl (List.Mem.head _) rfl) rfl ?_
  apply wl_store tt_ok; rfl; exact (Upd.there Upd.here); rfl; rfl; rfl; rfl; rfl; rfl
  refine wl_nil ?_
  refine wx_then ?_
  refine wc_ret ?_
  simp only [Option.some.injEq] at h
  obtain rfl := h
  exact wx_spD tt_ok (.inl rfl) Tryd.results56 (Res.cell rfl (List.Mem.tail _ (List.Mem.head _)) rfl Res.nil) ⟨p0a0, p0n0, p0c0, p0B0, p0N0, p0V0, rfl, rfl⟩ (fun F => by simp) (pSub (pApp (Sel.sc (Sel.sc Sel.ha)) pNil))

theorem k_hindcastref07_Inside {F : Nat} {p0 : T_api_Box} {p1 : T_api_Box} {r0 : Bool} (h : m_hindcastref07_Inside F p0 p1 = some r0) :
    Pf Tryd.prog 78 [.agg #[.int .i32 p0.X, .int .i32 p0.Y, .int .i32 p0.W, .int .i32 p0.H], .agg #[.int .i32 p1.X, .int .i32 p1.Y, .int .i32 p1.W, .int .i32 p1.H]] (fun w => True) (.bool r0) := by
  unfold m_hindcastref07_Inside at h
  refine pf_of_wc Tryd.func78 rfl Tryd.ntmps78 rfl rfl (fun w0 hR => ?_)
  refine wc_seq ?_
  refine wc_region ?_
  refine wl_box rfl rfl rfl (fun b2 => ?_)
  refine wl_box rfl rfl rfl (fun b3 => ?_)
  refine wl_pure tt_ok rfl rfl ?_
  refine wl_nil ?_
  refine wx_then ?_
  refine wc_seq ?_
  refine wc_quiet (by kernel_rfl) (by kernel_rfl) ?_
  refine wq_pure (v := .pointer (some ⟨b2, 0, none⟩)) tt_ok rfl rfl ?_
  refine wq_val (v := .int .i32 p0.X) (val_load tt_ok rfl (List.Mem.tail _ (List.Mem.head _)) rfl) rfl ?_
  refine wq_pure (v := .int .i64 (IntKind.wrap .i64 p0.X)) tt_ok rfl rfl ?_
  refine wq_pure (v := .pointer (some ⟨b2, 1, none⟩)) tt_ok rfl rfl ?_
  refine wq_val (v := .int .i32 p0.Y) (val_load tt_ok rfl (List.Mem.tail _ (List.Mem.head _)) rfl) rfl ?_
  refine wq_pure (v := .int .i64 (IntKind.wrap .i64 p0.Y)) tt_ok rfl rfl ?_
  refine wq_pure tt_ok rfl rfl ?_
  refine wq_pure tt_ok rfl rfl ?_
  refine wq_nil ?_
  refine wx_then ?_
  refine wc_seq ?_
  refine wc_region ?_
  refine wl_pure (v := .pointer (some ⟨b2, 2, none⟩)) tt_ok rfl rfl ?_
  refine wl_val (v := .int .i32 p0.W) (val_load tt_ok rfl (List.Mem.tail _ (List.Mem.head _)) rfl) rfl ?_
  refine wl_pure (v := .bool (decide ((0 : Int) < p0.W))) tt_ok rfl rfl ?_
  refine wl_pure tt_ok rfl rfl ?_
  replace h := bsome h; obtain ⟨v20, h, hg20⟩ := h
  refine wl_split (t := 16) rfl (fun hc => ?_) (fun hc => ?_)
  · replace h := ct hc h
    refine wl_run rfl ?_
    refine wl_pure (v := .pointer (some ⟨b2, 3, none⟩)) tt_ok rfl rfl ?_
    refine wl_run rfl ?_
    refine wl_val (v := .int .i32 p0.H) (val_load tt_ok rfl (List.Mem.tail _ (List.Mem.head _)) rfl) rfl ?_
    refine wl_run rfl ?_
    refine wl_pure (v := .bool (decide ((0 : Int) < p0.H))) tt_ok rfl rfl ?_
    simp only [Option.some.injEq, Prod.mk.injEq] at h
    obtain rfl := h
    have h := hg20; clear hg20
    refine wl_pure (v := .bool (decide ((0 : Int) < p0.H))) tt_ok rfl rfl ?_
    refine wl_pure tt_ok rfl rfl ?_
    replace h := bsome h; obtain ⟨v26, h, hg26⟩ := h
    refine wl_split (t := 21) rfl (fun hc => ?_) (fun hc => ?_)
    · replace h := ct hc h
      refine wl_run rfl ?_
      refine wl_val (v := .agg #[.int .i32 p1.X, .int .i32 p1.Y, .int .i32 p1.W, .int .i32 p1.H]) (val_load tt_ok rfl (List.Mem.head _) rfl) rfl ?_
      refine wl_run rfl ?_
      refine wl_pure tt_ok rfl rfl ?_
      refine wl_run rfl ?_
      refine wl_pure tt_ok rfl rfl ?_
      replace h := bsome h; obtain ⟨v25, x25, h⟩ := h
      refine wl_run rfl ?_
      refine wl_cq Tryd.call88 rfl rfl rfl (q_pf (k_hindcastref07_Has x25) (fun _ _ => trivial)) rfl ?_
      simp only [Option.some.injEq, Prod.mk.injEq] at h
      obtain rfl := h
      have h := hg26; clear hg26
      refine wl_pure (v := .bool v25) tt_ok rfl rfl ?_
      refine wl_pure tt_ok rfl rfl ?_
      replace h := bsome h; obtain ⟨v42, h, hg42⟩ := h
      refine wl_split (t := 27) rfl (fun hc => ?_) (fun hc => ?_)
      · replace h := ct hc h
        refine wl_run rfl ?_
        refine wl_val (v := .agg #[.int .i32 p1.X, .int .i32 p1.Y, .int .i32 p1.W, .int .i32 p1.H]) (val_load tt_ok rfl (List.Mem.head _) rfl) rfl ?_
        refine wl_run rfl ?_
        refine wl_pure tt_ok rfl rfl ?_
        refine wl_run rfl ?_
        refine wl_pure (v := .pointer (some ⟨b2, 2, none⟩)) tt_ok rfl rfl ?_
        refine wl_run rfl ?_
        refine wl_val (v := .int .i32 p0.W) (val_load tt_ok rfl (List.Mem.tail _ (List.Mem.head _)) rfl) rfl ?_
        refine wl_run rfl ?_
        refine wl_pure (v := .int .i64 (IntKind.wrap .i64 p0.W)) tt_ok rfl rfl ?_
        refine wl_run rfl ?_
        refine wl_pure (v := .int .i64 (IntKind.wrap .i64 ((IntKind.wrap .i64 p0.X) + (IntKind.wrap .i64 p0.W)))) tt_ok rfl rfl ?_
        refine wl_run rfl ?_
        refine wl_pure (v := .int .i64 (IntKind.wrap .i64 ((IntKind.wrap .i64 ((IntKind.wrap .i64 p0.X) + (IntKind.wrap .i64 p0.W))) - (1 : Int)))) tt_ok rfl rfl ?_
        refine wl_run rfl ?_
        refine wl_pure tt_ok rfl rfl ?_
        refine wl_run rfl ?_
        refine wl_pure (v := .pointer (some ⟨b2, 3, none⟩)) tt_ok rfl rfl ?_
        refine wl_run rfl ?_
        refine wl_val (v := .int .i32 p0.H) (val_load tt_ok rfl (List.Mem.tail _ (List.Mem.head _)) rfl) rfl ?_
        refine wl_run rfl ?_
        refine wl_pure (v := .int .i64 (IntKind.wrap .i64 p0.H)) tt_ok rfl rfl ?_
        refine wl_run rfl ?_
        refine wl_pure (v := .int .i64 (IntKind.wrap .i64 ((IntKind.wrap .i64 p0.Y) + (IntKind.wrap .i64 p0.H)))) tt_ok rfl rfl ?_
        refine wl_run rfl ?_
        refine wl_pure (v := .int .i64 (IntKind.wrap .i64 ((IntKind.wrap .i64 ((IntKind.wrap .i64 p0.Y) + (IntKind.wrap .i64 p0.H))) - (1 : Int)))) tt_ok rfl rfl ?_
        replace h := bsome h; obtain ⟨v41, x41, h⟩ := h
        refine wl_run rfl ?_
        refine wl_cq Tryd.call88 rfl rfl rfl (q_pf (k_hindcastref07_Has x41) (fun _ _ => trivial)) rfl ?_
        simp only [Option.some.injEq, Prod.mk.injEq] at h
        obtain rfl := h
        have h := hg42; clear hg42
        refine wl_pure (v := .bool v41) tt_ok rfl rfl ?_
        refine wl_pure tt_ok rfl rfl ?_
        refine wl_nil ?_
        refine wx_then ?_
        refine wc_ret ?_
        simp only [Option.some.injEq] at h
        obtain rfl := h
        exact wx_pf tt_ok (.inl rfl) Tryd.results78 (Res.tmp rfl Res.nil) rfl
      replace h := cf hc h
      refine wl_skip rfl rfl ?_
      refine wl_skip rfl rfl ?_
      refine wl_skip rfl rfl ?_
      refine wl_skip rfl rfl ?_
      refine wl_skip rfl rfl ?_
      refine wl_skip rfl rfl ?_
      refine wl_skip rfl rfl ?_
      refine wl_skip rfl rfl ?_
      refine wl_skip rfl rfl ?_
      refine wl_skip rfl rfl ?_
      refine wl_skip rfl rfl ?_
      refine wl_skip rfl rfl ?_
      refine wl_skip rfl rfl ?_
      refine wl_skip rfl rfl ?_
      simp only [Option.some.injEq, Prod.mk.injEq] at h
      obtain rfl := h
      have h := hg42; clear hg42
      refine wl_pure (v := .bool false) tt_ok rfl rfl ?_
      refine wl_pure tt_ok rfl rfl ?_
      refine wl_nil ?_
      refine wx_then ?_
      refine wc_ret ?_
      simp only [Option.some.injEq] at h
      obtain rfl := h
      exact wx_pf tt_ok (.inl rfl) Tryd.results78 (Res.tmp rfl Res.nil) rfl
    replace h := cf hc h
    refine wl_skip rfl rfl ?_
    refine wl_skip rfl rfl ?_
    refine wl_skip rfl rfl ?_
    refine wl_skip rfl rfl ?_
    simp only [Option.some.injEq, Prod.mk.injEq] at h
    obtain rfl := h
    have h := hg26; clear hg26
    refine wl_pure (v := .bool false) tt_ok rfl rfl ?_
    refine wl_pure tt_ok rfl rfl ?_
    replace h := bsome h; obtain ⟨v42, h, hg42⟩ := h
    replace h := cf rfl h
    refine wl_skip rfl rfl ?_
    refine wl_skip rfl rfl ?_
    refine wl_skip rfl rfl ?_
    refine wl_skip rfl rfl ?_
    refine wl_skip rfl rfl ?_
    refine wl_skip rfl rfl ?_
    refine wl_skip rfl rfl ?_
    refine wl_skip rfl rfl ?_
    refine wl_skip rfl rfl ?_
    refine wl_skip rfl rfl ?_
    refine wl_skip rfl rfl ?_
    refine wl_skip rfl rfl ?_
    refine wl_skip rfl rfl ?_
    refine wl_skip rfl rfl ?_
    simp only [Option.some.injEq, Prod.mk.injEq] at h
    obtain rfl := h
    have h := hg42; clear hg42
    refine wl_pure (v := .bool false) tt_ok rfl rfl ?_
    refine wl_pure tt_ok rfl rfl ?_
    refine wl_nil ?_
    refine wx_then ?_
    refine wc_ret ?_
    simp only [Option.some.injEq] at h
    obtain rfl := h
    exact wx_pf tt_ok (.inl rfl) Tryd.results78 (Res.tmp rfl Res.nil) rfl
  replace h := cf hc h
  refine wl_skip rfl rfl ?_
  refine wl_skip rfl rfl ?_
  refine wl_skip rfl rfl ?_
  simp only [Option.some.injEq, Prod.mk.injEq] at h
  obtain rfl := h
  have h := hg20; clear hg20
  refine wl_pure (v := .bool false) tt_ok rfl rfl ?_
  refine wl_pure tt_ok rfl rfl ?_
  replace h := bsome h; obtain ⟨v26, h, hg26⟩ := h
  replace h := cf rfl h
  refine wl_skip rfl rfl ?_
  refine wl_skip rfl rfl ?_
  refine wl_skip rfl rfl ?_
  refine wl_skip rfl rfl ?_
  simp only [Option.some.injEq, Prod.mk.injEq] at h
  obtain rfl := h
  have h := hg26; clear hg26
  refine wl_pure (v := .bool false) tt_ok rfl rfl ?_
  refine wl_pure tt_ok rfl rfl ?_
  replace h := bsome h; obtain ⟨v42, h, hg42⟩ := h
  replace h := cf rfl h
  refine wl_skip rfl rfl ?_
  refine wl_skip rfl rfl ?_
  refine wl_skip rfl rfl ?_
  refine wl_skip rfl rfl ?_
  refine wl_skip rfl rfl ?_
  refine wl_skip rfl rfl ?_
  refine wl_skip rfl rfl ?_
  refine wl_skip rfl rfl ?_
  refine wl_skip rfl rfl ?_
  refine wl_skip rfl rfl ?_
  refine wl_skip rfl rfl ?_
  refine wl_skip rfl rfl ?_
  refine wl_skip rfl rfl ?_
  refine wl_skip rfl rfl ?_
  simp only [Option.some.injEq, Prod.mk.injEq] at h
  obtain rfl := h
  have h := hg42; clear hg42
  refine wl_pure (v := .bool false) tt_ok rfl rfl ?_
  refine wl_pure tt_ok rfl rfl ?_
  refine wl_nil ?_
  refine wx_then ?_
  refine wc_ret ?_
  simp only [Option.some.injEq] at h
  obtain rfl := h
  exact wx_pf tt_ok (.inl rfl) Tryd.results78 (Res.tmp rfl Res.nil) rfl

theorem k_hindcastref09_four {F : Nat} {p0 : T_api_State} {p0a0 : Option Addr} {p0n0 p0c0 : Nat} {r0 : T_api_State} (p0N0 : p0n0 = p0.Shots.length) (p0H0 : p0n0 ≤ p0c0) (h : m_hindcastref09_four F p0 = some r0) :
    SpD Tryd.prog 57 [.agg #[.int .u64 p0.Frame, .int .u64 p0.Seed, .int .i32 p0.Players.1.X, .int .i32 p0.Players.1.Y, .int .i32 p0.Players.1.VX, .int .i32 p0.Players.1.VY, .int .u8 p0.Players.1.Health, .int .u8 p0.Players.1.Cool, .int .u8 p0.Players.1.Face, .int .i32 p0.Players.2.X, .int .i32 p0.Players.2.Y, .int .i32 p0.Players.2.VX, .int .i32 p0.Players.2.VY, .int .u8 p0.Players.2.Health, .int .u8 p0.Players.2.Cool, .int .u8 p0.Players.2.Face, .slice p0a0 p0n0 p0c0, .int .u16 p0.Score.1, .int .u16 p0.Score.2]] [] (fun w => Rds w (ids []) [] p0a0 (flat c_T_api_Shot p0.Shots)) (fun v D => ∃ (r0a0 : Option Addr) (r0n0 r0c0 : Nat) (r0B0 : List Blk), r0n0 = r0.Shots.length ∧ Own 66 6 r0a0 r0n0 r0c0 (flat c_T_api_Shot r0.Shots) r0B0 ∧ v = .agg #[.int .u64 r0.Frame, .int .u64 r0.Seed, .int .i32 r0.Players.1.X, .int .i32 r0.Players.1.Y, .int .i32 r0.Players.1.VX, .int .i32 r0.Players.1.VY, .int .u8 r0.Players.1.Health, .int .u8 r0.Players.1.Cool, .int .u8 r0.Players.1.Face, .int .i32 r0.Players.2.X, .int .i32 r0.Players.2.Y, .int .i32 r0.Players.2.VX, .int .i32 r0.Players.2.VY, .int .u8 r0.Players.2.Health, .int .u8 r0.Players.2.Cool, .int .u8 r0.Players.2.Face, .slice r0a0 r0n0 r0c0, .int .u16 r0.Score.1, .int .u16 r0.Score.2] ∧ D = fun F => (r0B0 ++ F)) := by
  unfold m_hindcastref09_four at h
  refine sp_of_wc Tryd.func57 rfl Tryd.ntmps57 rfl rfl (fun w0 hR => ?_)
  have p0S0 := hR
  refine wc_seq ?_
  refine wc_region ?_
  refine wl_box rfl rfl rfl (fun b1 => ?_)
  refine wl_alloc tt_ok rfl rfl (fun b2 => ?_)
  refine wl_nil ?_
  refine wx_then ?_
  refine wc_seq ?_
  refine wc_region ?_
  refine wl_pure (v := .pointer (some ⟨b1, 16, none⟩)) tt_ok rfl rfl ?_
  refine wl_val (v := .slice p0a0 p0n0 p0c0) (val_load tt_ok rfl (List.Mem.tail _ (List.Mem.head _)) rfl) rfl ?_
  refine wl_pure tt_ok rfl rfl ?_
  refine wl_nil ?_
  refine wx_then ?_
  refine wc_seq ?_
  refine wc_region ?_
  refine wl_pure (v := .pointer (some ⟨b1, 16, none⟩)) tt_ok rfl rfl ?_
  apply wl_store tt_ok; rfl; exact (Upd.there Upd.here); rfl; rfl; rfl; rfl; rfl; rfl
  refine wl_nil ?_
  refine wx_then ?_
  refine wc_seq ?_
  refine wc_seq ?_
  refine wc_region ?_
  refine wl_pure tt_ok rfl rfl ?_
  refine wl_nil ?_
  refine wx_then ?_
  refine wc_block ?_
  replace h := bsome h; obtain ⟨⟨l11_n1_f2, l11_n1_f3, l11_n1_f4⟩, h, hl11⟩ := h; try dsimp only at hl11
  refine wc_loop (fun m E L => ∃ (j11_4 : Int) (j11_n1_f2 : (T_api_Player × T_api_Player)) (j11_n1_f3 : (List T_api_Shot)) (j11_n1_f4 : (Int × Int)) (j11_n1_f3a0 : Option Addr) (j11_n1_f3n0 : Nat) (j11_n1_f3c0 : Nat) (j11_n1_f3B0 : List Blk), m_hindcastref09_four_L10 F p0 m j11_4 j11_n1_f2 j11_n1_f3 j11_n1_f4 = some (l11_n1_f2, l11_n1_f3, l11_n1_f4) ∧ j11_n1_f3n0 = j11_n1_f3.length ∧ Own 66 6 j11_n1_f3a0 j11_n1_f3n0 j11_n1_f3c0 (flat c_T_api_Shot j11_n1_f3) j11_n1_f3B0 ∧ E = [(1, .pointer (some ⟨b1, 0, none⟩)), (2, .pointer (some ⟨b2, 0, none⟩)), (3, .slice p0a0 p0n0 p0c0), (4, .int .i64 j11_4)] ∧ L = (⟨b1, [.int .u64 p0.Frame, .int .u64 p0.Seed, .int .i32 j11_n1_f2.1.X, .int .i32 j11_n1_f2.1.Y, .int .i32 j11_n1_f2.1.VX, .int .i32 j11_n1_f2.1.VY, .int .u8 j11_n1_f2.1.Health, .int .u8 j11_n1_f2.1.Cool, .int .u8 j11_n1_f2.1.Face, .int .i32 j11_n1_f2.2.X, .int .i32 j11_n1_f2.2.Y, .int .i32 j11_n1_f2.2.VX, .int .i32 j11_n1_f2.2.VY, .int .u8 j11_n1_f2.2.Health, .int .u8 j11_n1_f2.2.Cool, .int .u8 j11_n1_f2.2.Face, .slice j11_n1_f3a0 j11_n1_f3n0 j11_n1_f3c0, .int .u16 j11_n1_f4.1, .int .u16 j11_n1_f4.2], 30, (0, 0)⟩ :: (⟨b2, [.int .u64 (0 : Int), .int .u64 (0 : Int), .int .i32 (0 : Int), .int .i32 (0 : Int), .int .i32 (0 : Int), .int .i32 (0 : Int), .int .u8 (0 : Int), .int .u8 (0 : Int), .int .u8 (0 : Int), .int .i32 (0 : Int), .int .i32 (0 : Int), .int .i32 (0 : Int), .int .i32 (0 : Int), .int .u8 (0 : Int), .int .u8 (0 : Int), .int .u8 (0 : Int), .slice none 0 0, .int .u16 (0 : Int), .int .u16 (0 : Int)], 30, (0, 0)⟩ :: (j11_n1_f3B0 ++ [])))) F ⟨(0 : Int), p0.Players, ([] : List T_api_Shot), p0.Score, none, 0, 0, [], h, rfl, Own.zero, rfl, rfl⟩ (agree_cons rfl (agree_cons rfl (agree_cons rfl (agree_cons rfl agree_nil)))) (pSub (pCons (Sel.sc Sel.hc) (pCons Sel.hc (pNo pNil)))) ?_
  clear h
  rintro m11 _ _ ⟨j11_4, j11_n1_f2, j11_n1_f3, j11_n1_f4, j11_n1_f3a0, j11_n1_f3n0, j11_n1_f3c0, j11_n1_f3B0, h, j11_n1_f3N0, j11_n1_f3V0, rfl, rfl⟩
  rcases m11 with _ | m11
  · rw [m_hindcastref09_four_L10.eq_1] at h; cases h
  rw [m_hindcastref09_four_L10.eq_2] at h
  refine wc_seq ?_
  refine wc_seq ?_
  refine wc_region ?_
  refine wl_pure tt_ok rfl rfl ?_
  refine wl_pure tt_ok rfl rfl ?_
  refine wl_val (v := .int .i64 (p0.Shots.length : Int)) (val_len tt_ok rfl rfl p0N0) rfl ?_
  refine wl_pure (v := .bool (decide (j11_4 < (p0.Shots.length : Int)))) tt_ok rfl rfl ?_
  refine wl_nil ?_
  refine wx_then ?_
  refine wc_cond rfl (fun hc => ?_) (fun hc => ?_)
  · replace h := ct hc h
    refine wc_skip ?_
    refine wx_then ?_
    refine wc_seq ?_
    refine wc_block ?_
    refine wc_seq ?_
    refine wc_region ?_
    refine wl_pure tt_ok rfl rfl ?_
    refine wl_pure tt_ok rfl rfl ?_
    replace h := bsome h; obtain ⟨v20, x20, h⟩ := h
    refine wl_val (v := .pointer (some ((adOf p0a0).add (j11_4.toNat * 6 + 0)))) (val_ix (enc := c_T_api_Shot) tt_ok rfl rfl rfl rfl p0N0 p0S0 c_T_api_Shot_len rfl x20) rfl ?_
    refine wl_val (v := .agg #[.int .i32 v20.X, .int .i32 v20.Y, .int .i32 v20.VX, .int .i32 v20.VY, .int .u8 v20.Owner, .int .u8 v20.Life]) (val_le (enc := c_T_api_Shot) (xs := p0.Shots) tt_ok rfl p0S0 rsub_nil c_T_api_Shot_len x20 rfl) rfl ?_
    refine wl_alloc tt_ok rfl rfl (fun b5 => ?_)
    apply wl_store tt_ok; rfl; exact Upd.here; rfl; rfl; rfl; rfl; rfl; rfl
    refine wl_nil ?_
    refine wx_then ?_
    refine wc_seq ?_
    refine wc_region ?_
    refine wl_pure (v := .pointer (some ⟨b5, 0, none⟩)) tt_ok rfl rfl ?_
    refine wl_val (v := .int .i32 v20.X) (val_load tt_ok rfl (List.Mem.head _) rfl) rfl ?_
    refine wl_pure (v := .pointer (some ⟨b5, 2, none⟩)) tt_ok rfl rfl ?_
    refine wl_val (v := .int .i32 v20.VX) (val_load tt_ok rfl (List.Mem.head _) rfl) rfl ?_
    refine wl_pure (v := .int .i32 (IntKind.wrap .i32 (v20.X + v20.VX))) tt_ok rfl rfl ?_
    refine wl_pure (v := .pointer (some ⟨b5, 0, none⟩)) tt_ok rfl rfl ?_
    apply wl_store tt_ok; rfl; exact Upd.here; rfl; rfl; rfl; rfl; rfl; rfl
    refine wl_nil ?_
    refine wx_then ?_
    refine wc_seq ?_
    refine wc_region ?_
    refine wl_pure (v := .pointer (some ⟨b5, 1, none⟩)) tt_ok rfl rfl ?_
    refine wl_val (v := .int .i32 v20.Y) (val_load tt_ok rfl (List.Mem.head _) rfl) rfl ?_
    refine wl_pure (v := .pointer (some ⟨b5, 3, none⟩)) tt_ok rfl rfl ?_
    refine wl_val (v := .int .i32 v20.VY) (val_load tt_ok rfl (List.Mem.head _) rfl) rfl ?_
    refine wl_pure (v := .int .i32 (IntKind.wrap .i32 (v20.Y + v20.VY))) tt_ok rfl rfl ?_
    refine wl_pure (v := .pointer (some ⟨b5, 1, none⟩)) tt_ok rfl rfl ?_
    apply wl_store tt_ok; rfl; exact Upd.here; rfl; rfl; rfl; rfl; rfl; rfl
    refine wl_nil ?_
    refine wx_then ?_
    refine wc_seq ?_
    refine wc_region ?_
    refine wl_pure (v := .pointer (some ⟨b5, 5, none⟩)) tt_ok rfl rfl ?_
    refine wl_val (v := .int .u8 v20.Life) (val_load tt_ok rfl (List.Mem.head _) rfl) rfl ?_
    refine wl_pure (v := .int .u8 (IntKind.wrap .u8 (v20.Life - (1 : Int)))) tt_ok rfl rfl ?_
    refine wl_pure (v := .pointer (some ⟨b5, 5, none⟩)) tt_ok rfl rfl ?_
    apply wl_store tt_ok; rfl; exact Upd.here; rfl; rfl; rfl; rfl; rfl; rfl
    refine wl_nil ?_
    refine wx_then ?_
    refine wc_seq ?_
    refine wc_region ?_
    refine wl_pure (v := .pointer (some ⟨b5, 0, none⟩)) tt_ok rfl rfl ?_
    refine wl_val (v := .int .i32 (IntKind.wrap .i32 (v20.X + v20.VX))) (val_load tt_ok rfl (List.Mem.head _) rfl) rfl ?_
    refine wl_pure (v := .pointer (some ⟨b5, 1, none⟩)) tt_ok rfl rfl ?_
    refine wl_val (v := .int .i32 (IntKind.wrap .i32 (v20.Y + v20.VY))) (val_load tt_ok rfl (List.Mem.head _) rfl) rfl ?_
    refine wl_pure (v := .agg #[.int .i32 (IntKind.wrap .i32 (v20.X + v20.VX)), .int .i32 (IntKind.wrap .i32 (v20.Y + v20.VY)), .int .i32 (512 : Int), .int .i32 (512 : Int)]) tt_ok rfl rfl ?_
    refine wl_alloc tt_ok rfl rfl (fun b6 => ?_)
    apply wl_store tt_ok; rfl; exact Upd.here; rfl; rfl; rfl; rfl; rfl; rfl
    refine wl_nil ?_
    refine wx_then ?_
    refine wc_seq ?_
    refine wc_region ?_
    refine wl_pure (v := .pointer (some ⟨b5, 4, none⟩)) tt_ok rfl rfl ?_
    refine wl_val (v := .int .u8 v20.Owner) (val_load tt_ok rfl (List.Mem.tail _ (List.Mem.head _)) rfl) rfl ?_
    refine wl_pure (v := .int .u8 (IntKind.wrap .u8 ((1 : Int) - v20.Owner))) tt_ok rfl rfl ?_
    refine wl_pure tt_ok rfl rfl ?_
    refine wl_nil ?_
    refine wx_then ?_
    refine wc_seq ?_
    refine wc_seq ?_
    refine wc_region ?_
    refine wl_val (v := .agg #[.int .i32 (IntKind.wrap .i32 (v20.X + v20.VX)), .int .i32 (IntKind.wrap .i32 (v20.Y + v20.VY)), .int .i32 (512 : Int), .int .i32 (512 : Int)]) (val_load tt_ok rfl (List.Mem.head _) rfl) rfl ?_
    refine wl_pure (v := .agg #[.int .i32 (0 : Int), .int .i32 (0 : Int), .int .i32 (65536 : Int), .int .i32 (32768 : Int)]) tt_ok rfl rfl ?_
    replace h := bsome h; obtain ⟨v48, x48, h⟩ := h
    refine wl_cq Tryd.call78 rfl rfl rfl (q_pf (k_hindcastref07_Inside x48) (fun _ _ => trivial)) rfl ?_
    refine wl_pure (v := .bool (!v48)) tt_ok rfl rfl ?_
    refine wl_nil ?_
    refine wx_then ?_
    refine wc_cond rfl (fun hc => ?_) (fun hc => ?_)
    · replace h := ct hc h
      refine wc_exit ?_
      refine wx_then_exit ?_
      refine wx_block_exit ?_
      refine wx_then ?_
      refine wc_region ?_
      refine wl_pure tt_ok rfl rfl ?_
      refine wl_pure (v := .int .i64 (IntKind.wrap .i64 (j11_4 + (1 : Int)))) tt_ok rfl rfl ?_
      refine wl_pure tt_ok rfl rfl ?_
      refine wl_nil ?_
      exact wx_round m11 (Nat.lt_succ_self m11) ⟨(IntKind.wrap .i64 (j11_4 + (1 : Int))), j11_n1_f2, j11_n1_f3, j11_n1_f4, j11_n1_f3a0, j11_n1_f3n0, j11_n1_f3c0, j11_n1_f3B0, h, j11_n1_f3N0, j11_n1_f3V0, rfl, rfl⟩ (agree_cons rfl (agree_cons rfl (agree_cons rfl (agree_cons rfl agree_nil)))) (pSub (pCons (Sel.sc (Sel.sc Sel.hc)) (pCons (Sel.sc (Sel.sc Sel.hc)) (pApp (Sel.sc (Sel.sc Sel.ha)) pNil))))
    replace h := cf hc h
    refine wc_skip ?_
    refine wx_then ?_
    refine wc_seq ?_
    refine wc_seq ?_
    refine wc_quiet (by kernel_rfl) (by kernel_rfl) ?_
    refine wq_val (v := .agg #[.int .i32 (IntKind.wrap .i32 (v20.X + v20.VX)), .int .i32 (IntKind.wrap .i32 (v20.Y + v20.VY)), .int .i32 (512 : Int), .int .i32 (512 : Int)]) (val_load tt_ok rfl (List.Mem.head _) rfl) rfl ?_
    refine wq_pure tt_ok rfl rfl ?_
    refine wq_pure (v := .pointer (some ⟨b1, 2, none⟩)) tt_ok rfl rfl ?_
    rcases Bool.eq_false_or_eq_true ((IntKind.wrap .u8 ((1 : Int) - v20.Owner)) == (0 : Int)) with hx530 | hx530
    · replace h := ct hx530 h
      refine wq_val (v := .pointer (some ⟨b1, 2, none⟩)) (val_ia (j := 0) tt_ok rfl rfl rfl rfl (by simpa using hx530) rfl rfl) rfl ?_
      refine wq_val (v := .agg #[.int .i32 j11_n1_f2.1.X, .int .i32 j11_n1_f2.1.Y, .int .i32 j11_n1_f2.1.VX, .int .i32 j11_n1_f2.1.VY, .int .u8 j11_n1_f2.1.Health, .int .u8 j11_n1_f2.1.Cool, .int .u8 j11_n1_f2.1.Face]) (val_load tt_ok rfl (List.Mem.tail _ (List.Mem.tail _ (List.Mem.head _))) rfl) rfl ?_
      replace h := bsome h; obtain ⟨v55, x55, h⟩ := h
      refine wq_cq Tryd.call77 rfl rfl rfl (q_pf (k_hindcastref09_Box x55) (fun _ _ => trivial)) rfl ?_
      replace h := bsome h; obtain ⟨v56, x56, h⟩ := h
      refine wq_cq Tryd.call76 rfl rfl rfl (q_pf (k_hindcastref07_Over x56) (fun _ _ => trivial)) rfl ?_
      refine wq_nil ?_
      refine wx_then ?_
      refine wc_cond rfl (fun hc => ?_) (fun hc => ?_)
      · replace h := ct hc h
        refine wc_seq ?_
        refine wc_region ?_
        refine wl_pure tt_ok rfl rfl ?_
        refine wl_pure (v := .pointer (some ⟨b1, 2, none⟩)) tt_ok rfl rfl ?_
        refine wl_val (v := .pointer (some ⟨b1, 2, none⟩)) (val_ia (j := 0) tt_ok rfl rfl rfl rfl (by simpa using hx530) rfl rfl) rfl ?_
        refine wl_pure (v := .pointer (some ⟨b1, 6, none⟩)) tt_ok rfl rfl ?_
        refine wl_val (v := .int .u8 j11_n1_f2.1.Health) (val_load tt_ok rfl (List.Mem.tail _ (List.Mem.tail _ (List.Mem.head _))) rfl) rfl ?_
        refine wl_pure tt_ok rfl rfl ?_
        refine wl_nil ?_
        refine wx_then ?_
        refine wc_seq ?_
        refine wc_seq ?_
        refine wc_region ?_
        refine wl_pure tt_ok rfl rfl ?_
        refine wl_pure (v := .bool (decide (j11_n1_f2.1.Health < (10 : Int)))) tt_ok rfl rfl ?_
        refine wl_nil ?_
        refine wx_then ?_
        replace h := bsome h; obtain ⟨j47_8, h, hj47⟩ := h
        refine wc_join2 (fun E L => E = [(1, .pointer (some ⟨b1, 0, none⟩)), (2, .pointer (some ⟨b2, 0, none⟩)), (3, .slice p0a0 p0n0 p0c0), (4, .int .i64 j11_4), (5, .pointer (some ⟨b5, 0, none⟩)), (7, .int .u8 (IntKind.wrap .u8 ((1 : Int) - v20.Owner))), (8, .int .u8 j47_8)] ∧ L = (⟨b1, [.int .u64 p0.Frame, .int .u64 p0.Seed, .int .i32 j11_n1_f2.1.X, .int .i32 j11_n1_f2.1.Y, .int .i32 j11_n1_f2.1.VX, .int .i32 j11_n1_f2.1.VY, .int .u8 j11_n1_f2.1.Health, .int .u8 j11_n1_f2.1.Cool, .int .u8 j11_n1_f2.1.Face, .int .i32 j11_n1_f2.2.X, .int .i32 j11_n1_f2.2.Y, .int .i32 j11_n1_f2.2.VX, .int .i32 j11_n1_f2.2.VY, .int .u8 j11_n1_f2.2.Health, .int .u8 j11_n1_f2.2.Cool, .int .u8 j11_n1_f2.2.Face, .slice j11_n1_f3a0 j11_n1_f3n0 j11_n1_f3c0, .int .u16 j11_n1_f4.1, .int .u16 j11_n1_f4.2], 30, (0, 0)⟩ :: (⟨b2, [.int .u64 (0 : Int), .int .u64 (0 : Int), .int .i32 (0 : Int), .int .i32 (0 : Int), .int .i32 (0 : Int), .int .i32 (0 : Int), .int .u8 (0 : Int), .int .u8 (0 : Int), .int .u8 (0 : Int), .int .i32 (0 : Int), .int .i32 (0 : Int), .int .i32 (0 : Int), .int .i32 (0 : Int), .int .u8 (0 : Int), .int .u8 (0 : Int), .int .u8 (0 : Int), .slice none 0 0, .int .u16 (0 : Int), .int .u16 (0 : Int)], 30, (0, 0)⟩ :: (⟨b5, [.int .i32 (IntKind.wrap .i32 (v20.X + v20.VX)), .int .i32 (IntKind.wrap .i32 (v20.Y + v20.VY)), .int .i32 v20.VX, .int .i32 v20.VY, .int .u8 v20.Owner, .int .u8 (IntKind.wrap .u8 (v20.Life - (1 : Int)))], 66, (0, 0)⟩ :: (j11_n1_f3B0 ++ []))))) ?_ ?_
        · refine wc_cond rfl (fun hc => ?_) (fun hc => ?_)
          · replace h := ct hc h
            refine wc_region ?_
            refine wl_pure tt_ok rfl rfl ?_
            refine wl_nil ?_
            simp only [Option.some.injEq] at h
            obtain rfl := h
            exact wx_join ⟨rfl, rfl⟩ (agree_cons rfl (agree_cons rfl (agree_cons rfl (agree_cons rfl (agree_cons rfl (agree_cons rfl (agree_cons rfl agree_nil))))))) (pSub (pCons (Sel.sc (Sel.sc Sel.hc)) (pCons (Sel.sc (Sel.sc Sel.hc)) (pCons (Sel.sc Sel.hc) (pApp (Sel.sc Sel.ha) pNil)))))
          replace h := cf hc h
          refine wc_skip ?_
          simp only [Option.some.injEq] at h
          obtain rfl := h
          exact wx_join ⟨rfl, rfl⟩ (agree_cons rfl (agree_cons rfl (agree_cons rfl (agree_cons rfl (agree_cons rfl (agree_cons rfl (agree_cons rfl agree_nil))))))) (pSub (pCons (Sel.sc (Sel.sc Sel.hc)) (pCons (Sel.sc (Sel.sc Sel.hc)) (pCons (Sel.sc Sel.hc) (pApp (Sel.sc Sel.ha) pNil)))))
        rintro _ _ ⟨rfl, rfl⟩
        have h := hj47; clear hj47
        refine wc_seq ?_
        refine wc_region ?_
        refine wl_pure tt_ok rfl rfl ?_
        refine wl_pure tt_ok rfl rfl ?_
        refine wl_pure (v := .int .u8 (IntKind.wrap .u8 (j47_8 - (10 : Int)))) tt_ok rfl rfl ?_
        refine wl_pure (v := .pointer (some ⟨b1, 2, none⟩)) tt_ok rfl rfl ?_
        refine wl_val (v := .pointer (some ⟨b1, 2, none⟩)) (val_ia (j := 0) tt_ok rfl rfl rfl rfl (by simpa using hx530) rfl rfl) rfl ?_
        refine wl_pure (v := .pointer (some ⟨b1, 6, none⟩)) tt_ok rfl rfl ?_
        apply wl_store tt_ok; rfl; exact Upd.here; rfl; rfl; rfl; rfl; rfl; rfl
        refine wl_nil ?_
        refine wx_then ?_
        refine wc_seq ?_
        refine wc_seq ?_
        refine wc_region ?_
        refine wl_pure (v := .pointer (some ⟨b5, 4, none⟩)) tt_ok rfl rfl ?_
        refine wl_val (v := .int .u8 v20.Owner) (val_load tt_ok rfl (List.Mem.tail _ (List.Mem.tail _ (List.Mem.head _))) rfl) rfl ?_
        refine wl_pure (v := .pointer (some ⟨b1, 17, none⟩)) tt_ok rfl rfl ?_
        rcases Bool.eq_false_or_eq_true (v20.Owner == (0 : Int)) with hx730 | hx730
        · replace h := ct hx730 h
          refine wl_val (v := .pointer (some ⟨b1, 17, none⟩)) (val_ia (j := 0) tt_ok rfl rfl rfl rfl (by simpa using hx730) rfl rfl) rfl ?_
          refine wl_val (v := .int .u16 j11_n1_f4.1) (val_load tt_ok rfl (List.Mem.head _) rfl) rfl ?_
          refine wl_pure (v := .bool (decide (j11_n1_f4.1 < (65535 : Int)))) tt_ok rfl rfl ?_
          refine wl_nil ?_
          refine wx_then ?_
          refine wc_cond rfl (fun hc => ?_) (fun hc => ?_)
          · replace h := ct hc h
            refine wc_k2 (Ls := (⟨b1, [.int .u64 p0.Frame, .int .u64 p0.Seed, .int .i32 j11_n1_f2.1.X, .int .i32 j11_n1_f2.1.Y, .int .i32 j11_n1_f2.1.VX, .int .i32 j11_n1_f2.1.VY, .int .u8 (IntKind.wrap .u8 (j47_8 - (10 : Int))), .int .u8 j11_n1_f2.1.Cool, .int .u8 j11_n1_f2.1.Face, .int .i32 j11_n1_f2.2.X, .int .i32 j11_n1_f2.2.Y, .int .i32 j11_n1_f2.2.VX, .int .i32 j11_n1_f2.2.VY, .int .u8 j11_n1_f2.2.Health, .int .u8 j11_n1_f2.2.Cool, .int .u8 j11_n1_f2.2.Face, .slice j11_n1_f3a0 j11_n1_f3n0 j11_n1_f3c0, .int .u16 j11_n1_f4.1, .int .u16 j11_n1_f4.2], 30, (0, 0)⟩ :: (⟨b2, [.int .u64 (0 : Int), .int .u64 (0 : Int), .int .i32 (0 : Int), .int .i32 (0 : Int), .int .i32 (0 : Int), .int .i32 (0 : Int), .int .u8 (0 : Int), .int .u8 (0 : Int), .int .u8 (0 : Int), .int .i32 (0 : Int), .int .i32 (0 : Int), .int .i32 (0 : Int), .int .i32 (0 : Int), .int .u8 (0 : Int), .int .u8 (0 : Int), .int .u8 (0 : Int), .slice none 0 0, .int .u16 (0 : Int), .int .u16 (0 : Int)], 30, (0, 0)⟩ :: (⟨b5, [.int .i32 (IntKind.wrap .i32 (v20.X + v20.VX)), .int .i32 (IntKind.wrap .i32 (v20.Y + v20.VY)), .int .i32 v20.VX, .int .i32 v20.VY, .int .u8 v20.Owner, .int .u8 (IntKind.wrap .u8 (v20.Life - (1 : Int)))], 66, (0, 0)⟩ :: (j11_n1_f3B0 ++ []))))) [10] [10] [0, 1, 0, 4, 0, 28, 60, 124, 0, 511, 1023] [0, 1, 2, 3, 4, 5, 6, 7, 8, 9, 10] (by kernel_rfl) (by kernel_rfl) (by kernel_rfl) ?_
            refine k_val (v := .pointer (some ⟨b5, 4, none⟩)) rfl rfl rfl (pSub (pCons Sel.hc (pCons Sel.hc (pCons Sel.hc (pApp Sel.ha pNil))))) (stepV_ok tt_ok rfl) rfl ?_
            refine k_val (v := .int .u8 v20.Owner) rfl rfl rfl (pSub (pCons Sel.hc (pCons Sel.hc (pCons Sel.hc (pApp Sel.ha pNil))))) (val_load tt_ok rfl (List.Mem.tail _ (List.Mem.tail _ (List.Mem.head _))) rfl) rfl ?_
            refine k_val (v := .pointer (some ⟨b5, 4, none⟩)) rfl rfl rfl (pSub (pCons Sel.hc (pCons Sel.hc (pCons Sel.hc (pApp Sel.ha pNil))))) (stepV_ok tt_ok rfl) rfl ?_
            refine k_val (v := .int .u8 v20.Owner) rfl rfl rfl (pSub (pCons Sel.hc (pCons Sel.hc (pCons Sel.hc (pApp Sel.ha pNil))))) (val_load tt_ok rfl (List.Mem.tail _ (List.Mem.tail _ (List.Mem.head _))) rfl) rfl ?_
            refine k_val (v := .pointer (some ⟨b1, 17, none⟩)) rfl rfl rfl (pSub (pCons Sel.hc (pCons Sel.hc (pCons Sel.hc (pApp Sel.ha pNil))))) (stepV_ok tt_ok rfl) rfl ?_
            refine k_val (v := .pointer (some ⟨b1, 17, none⟩)) rfl rfl rfl (pSub (pCons Sel.hc (pCons Sel.hc (pCons Sel.hc (pApp Sel.ha pNil))))) (val_ia (j := 0) tt_ok rfl rfl rfl rfl (by simpa using hx730) rfl rfl) rfl ?_
            refine k_val (v := .int .u16 j11_n1_f4.1) rfl rfl rfl (pSub (pCons Sel.hc (pCons Sel.hc (pCons Sel.hc (pApp Sel.ha pNil))))) (val_load tt_ok rfl (List.Mem.head _) rfl) rfl ?_
            refine k_val (v := .int .u16 (IntKind.wrap .u16 (j11_n1_f4.1 + (1 : Int)))) rfl rfl rfl (pSub (pCons Sel.hc (pCons Sel.hc (pCons Sel.hc (pApp Sel.ha pNil))))) (stepV_ok tt_ok rfl) rfl ?_
            refine k_val (v := .pointer (some ⟨b1, 17, none⟩)) rfl rfl rfl (pSub (pCons Sel.hc (pCons Sel.hc (pCons Sel.hc (pApp Sel.ha pNil))))) (stepV_ok tt_ok rfl) rfl ?_
            refine k_val (v := .pointer (some ⟨b1, 17, none⟩)) rfl rfl rfl (pSub (pCons Sel.hc (pCons Sel.hc (pCons Sel.hc (pApp Sel.ha pNil))))) (val_ia (j := 0) tt_ok rfl rfl rfl rfl (by simpa using hx730) rfl rfl) rfl ?_
            refine k_chg0 rfl rfl rfl (chg_store tt_ok rfl Upd.here rfl rfl rfl rfl rfl rfl) (.inl rfl) ?_
            rintro _ _ rfl
            refine k_end (by kernel_rfl) ?_
            refine wx_then ?_
            refine wc_exit ?_
            refine wx_then_exit ?_
            refine wx_block_exit ?_
            refine wx_then ?_
            refine wc_region ?_
            refine wl_pure tt_ok rfl rfl ?_
            refine wl_pure (v := .int .i64 (IntKind.wrap .i64 (j11_4 + (1 : Int)))) tt_ok rfl rfl ?_
            refine wl_pure tt_ok rfl rfl ?_
            refine wl_nil ?_
            exact wx_round m11 (Nat.lt_succ_self m11) ⟨(IntKind.wrap .i64 (j11_4 + (1 : Int))), ((T_api_Player.mk j11_n1_f2.1.X j11_n1_f2.1.Y j11_n1_f2.1.VX j11_n1_f2.1.VY (IntKind.wrap .u8 (j47_8 - (10 : Int))) j11_n1_f2.1.Cool j11_n1_f2.1.Face), j11_n1_f2.2), j11_n1_f3, ((IntKind.wrap .u16 (j11_n1_f4.1 + (1 : Int))), j11_n1_f4.2), j11_n1_f3a0, j11_n1_f3n0, j11_n1_f3c0, j11_n1_f3B0, h, j11_n1_f3N0, j11_n1_f3V0, rfl, rfl⟩ (agree_cons rfl (agree_cons rfl (agree_cons rfl (agree_cons rfl agree_nil)))) (pSub (pCons Sel.hc (pCons Sel.hc (pApp (Sel.sc Sel.ha) pNil))))
          replace h := cf hc h
          refine wc_skip ?_
          refine wx_then ?_
          refine wc_exit ?_
          refine wx_then_exit ?_
          refine wx_block_exit ?_
          refine wx_then ?_
          refine wc_region ?_
          refine wl_pure tt_ok rfl rfl ?_
          refine wl_pure (v := .int .i64 (IntKind.wrap .i64 (j11_4 + (1 : Int)))) tt_ok rfl rfl ?_
          refine wl_pure tt_ok rfl rfl ?_
          refine wl_nil ?_
          exact wx_round m11 (Nat.lt_succ_self m11) ⟨(IntKind.wrap .i64 (j11_4 + (1 : Int))), ((T_api_Player.mk j11_n1_f2.1.X j11_n1_f2.1.Y j11_n1_f2.1.VX j11_n1_f2.1.VY (IntKind.wrap .u8 (j47_8 - (10 : Int))) j11_n1_f2.1.Cool j11_n1_f2.1.Face), j11_n1_f2.2), j11_n1_f3, j11_n1_f4, j11_n1_f3a0, j11_n1_f3n0, j11_n1_f3c0, j11_n1_f3B0, h, j11_n1_f3N0, j11_n1_f3V0, rfl, rfl⟩ (agree_cons rfl (agree_cons rfl (agree_cons rfl (agree_cons rfl agree_nil)))) (pSub (pCons Sel.hc (pCons Sel.hc (pApp (Sel.sc Sel.ha) pNil))))
        replace h := cf hx730 h
        rcases Bool.eq_false_or_eq_true (v20.Owner == (1 : Int)) with hx731 | hx731
        · replace h := ct hx731 h
          refine wl_val (v := .pointer (some ⟨b1, 18, none⟩)) (val_ia (j := 1) tt_ok rfl rfl rfl rfl (by simpa using hx731) rfl rfl) rfl ?_
          refine wl_val (v := .int .u16 j11_n1_f4.2) (val_load tt_ok rfl (List.Mem.head _) rfl) rfl ?_
          refine wl_pure (v := .bool (decide (j11_n1_f4.2 < (65535 : Int)))) tt_ok rfl rfl ?_
          refine wl_nil ?_
          refine wx_then ?_
          refine wc_cond rfl (fun hc => ?_) (fun hc => ?_)
          · replace h := ct hc h
            refine wc_k2 (Ls := (⟨b1, [.int .u64 p0.Frame, .int .u64 p0.Seed, .int .i32 j11_n1_f2.1.X, .int .i32 j11_n1_f2.1.Y, .int .i32 j11_n1_f2.1.VX, .int .i32 j11_n1_f2.1.VY, .int .u8 (IntKind.wrap .u8 (j47_8 - (10 : Int))), .int .u8 j11_n1_f2.1.Cool, .int .u8 j11_n1_f2.1.Face, .int .i32 j11_n1_f2.2.X, .int .i32 j11_n1_f2.2.Y, .int .i32 j11_n1_f2.2.VX, .int .i32 j11_n1_f2.2.VY, .int .u8 j11_n1_f2.2.Health, .int .u8 j11_n1_f2.2.Cool, .int .u8 j11_n1_f2.2.Face, .slice j11_n1_f3a0 j11_n1_f3n0 j11_n1_f3c0, .int .u16 j11_n1_f4.1, .int .u16 j11_n1_f4.2], 30, (0, 0)⟩ :: (⟨b2, [.int .u64 (0 : Int), .int .u64 (0 : Int), .int .i32 (0 : Int), .int .i32 (0 : Int), .int .i32 (0 : Int), .int .i32 (0 : Int), .int .u8 (0 : Int), .int .u8 (0 : Int), .int .u8 (0 : Int), .int .i32 (0 : Int), .int .i32 (0 : Int), .int .i32 (0 : Int), .int .i32 (0 : Int), .int .u8 (0 : Int), .int .u8 (0 : Int), .int .u8 (0 : Int), .slice none 0 0, .int .u16 (0 : Int), .int .u16 (0 : Int)], 30, (0, 0)⟩ :: (⟨b5, [.int .i32 (IntKind.wrap .i32 (v20.X + v20.VX)), .int .i32 (IntKind.wrap .i32 (v20.Y + v20.VY)), .int .i32 v20.VX, .int .i32 v20.VY, .int .u8 v20.Owner, .int .u8 (IntKind.wrap .u8 (v20.Life - (1 : Int)))], 66, (0, 0)⟩ :: (j11_n1_f3B0 ++ []))))) [10] [10] [0, 1, 0, 4, 0, 28, 60, 124, 0, 511, 1023] [0, 1, 2, 3, 4, 5, 6, 7, 8, 9, 10] (by kernel_rfl) (by kernel_rfl) (by kernel_rfl) ?_
            refine k_val (v := .pointer (some ⟨b5, 4, none⟩)) rfl rfl rfl (pSub (pCons Sel.hc (pCons Sel.hc (pCons Sel.hc (pApp Sel.ha pNil))))) (stepV_ok tt_ok rfl) rfl ?_
            refine k_val (v := .int .u8 v20.Owner) rfl rfl rfl (pSub (pCons Sel.hc (pCons Sel.hc (pCons Sel.hc (pApp Sel.ha pNil))))) (val_load tt_ok rfl (List.Mem.tail _ (List.Mem.tail _ (List.Mem.head _))) rfl) rfl ?_
            refine k_val (v := .pointer (some ⟨b5, 4, none⟩)) rfl rfl rfl (pSub (pCons Sel.hc (pCons Sel.hc (pCons Sel.hc (pApp Sel.ha pNil))))) (stepV_ok tt_ok rfl) rfl ?_
            refine k_val (v := .int .u8 v20.Owner) rfl rfl rfl (pSub (pCons Sel.hc (pCons Sel.hc (pCons Sel.hc (pApp Sel.ha pNil))))) (val_load tt_ok rfl (List.Mem.tail _ (List.Mem.tail _ (List.Mem.head _))) rfl) rfl ?_
            refine k_val (v := .pointer (some ⟨b1, 17, none⟩)) rfl rfl rfl (pSub (pCons Sel.hc (pCons Sel.hc (pCons Sel.hc (pApp Sel.ha pNil))))) (stepV_ok tt_ok rfl) rfl ?_
            refine k_val (v := .pointer (some ⟨b1, 18, none⟩)) rfl rfl rfl (pSub (pCons Sel.hc (pCons Sel.hc (pCons Sel.hc (pApp Sel.ha pNil))))) (val_ia (j := 1) tt_ok rfl rfl rfl rfl (by simpa using hx731) rfl rfl) rfl ?_
            refine k_val (v := .int .u16 j11_n1_f4.2) rfl rfl rfl (pSub (pCons Sel.hc (pCons Sel.hc (pCons Sel.hc (pApp Sel.ha pNil))))) (val_load tt_ok rfl (List.Mem.head _) rfl) rfl ?_
            refine k_val (v := .int .u16 (IntKind.wrap .u16 (j11_n1_f4.2 + (1 : Int)))) rfl rfl rfl (pSub (pCons Sel.hc (pCons Sel.hc (pCons Sel.hc (pApp Sel.ha pNil))))) (stepV_ok tt_ok rfl) rfl ?_
            refine k_val (v := .pointer (some ⟨b1, 17, none⟩)) rfl rfl rfl (pSub (pCons Sel.hc (pCons Sel.hc (pCons Sel.hc (pApp Sel.ha pNil))))) (stepV_ok tt_ok rfl) rfl ?_
            refine k_val (v := .pointer (some ⟨b1, 18, none⟩)) rfl rfl rfl (pSub (pCons Sel.hc (pCons Sel.hc (pCons Sel.hc (pApp Sel.ha pNil))))) (val_ia (j := 1) tt_ok rfl rfl rfl rfl (by simpa using hx731) rfl rfl) rfl ?_
            refine k_chg0 rfl rfl rfl (chg_store tt_ok rfl Upd.here rfl rfl rfl rfl rfl rfl) (.inl rfl) ?_
            rintro _ _ rfl
            refine k_end (by kernel_rfl) ?_
            refine wx_then ?_
            refine wc_exit ?_
            refine wx_then_exit ?_
            refine wx_block_exit ?_
            refine wx_then ?_
            refine wc_region ?_
            refine wl_pure tt_ok rfl rfl ?_
            refine wl_pure (v := .int .i64 (IntKind.wrap .i64 (j11_4 + (1 : Int)))) tt_ok rfl rfl ?_
            refine wl_pure tt_ok rfl rfl ?_
            refine wl_nil ?_
            exact wx_round m11 (Nat.lt_succ_self m11) ⟨(IntKind.wrap .i64 (j11_4 + (1 : Int))), ((T_api_Player.mk j11_n1_f2.1.X j11_n1_f2.1.Y j11_n1_f2.1.VX j11_n1_f2.1.VY (IntKind.wrap .u8 (j47_8 - (10 : Int))) j11_n1_f2.1.Cool j11_n1_f2.1.Face), j11_n1_f2.2), j11_n1_f3, (j11_n1_f4.1, (IntKind.wrap .u16 (j11_n1_f4.2 + (1 : Int)))), j11_n1_f3a0, j11_n1_f3n0, j11_n1_f3c0, j11_n1_f3B0, h, j11_n1_f3N0, j11_n1_f3V0, rfl, rfl⟩ (agree_cons rfl (agree_cons rfl (agree_cons rfl (agree_cons rfl agree_nil)))) (pSub (pCons Sel.hc (pCons Sel.hc (pApp (Sel.sc Sel.ha) pNil))))
          replace h := cf hc h
          refine wc_skip ?_
          refine wx_then ?_
          refine wc_exit ?_
          refine wx_then_exit ?_
          refine wx_block_exit ?_
          refine wx_then ?_
          refine wc_region ?_
          refine wl_pure tt_ok rfl rfl ?_
          refine wl_pure (v := .int .i64 (IntKind.wrap .i64 (j11_4 + (1 : Int)))) tt_ok rfl rfl ?_
          refine wl_pure tt_ok rfl rfl ?_
          refine wl_nil ?_
          exact wx_round m11 (Nat.lt_succ_self m11) ⟨(IntKind.wrap .i64 (j11_4 + (1 : Int))), ((T_api_Player.mk j11_n1_f2.1.X j11_n1_f2.1.Y j11_n1_f2.1.VX j11_n1_f2.1.VY (IntKind.wrap .u8 (j47_8 - (10 : Int))) j11_n1_f2.1.Cool j11_n1_f2.1.Face), j11_n1_f2.2), j11_n1_f3, j11_n1_f4, j11_n1_f3a0, j11_n1_f3n0, j11_n1_f3c0, j11_n1_f3B0, h, j11_n1_f3N0, j11_n1_f3V0, rfl, rfl⟩ (agree_cons rfl (agree_cons rfl (agree_cons rfl (agree_cons rfl agree_nil)))) (pSub (pCons Sel.hc (pCons Sel.hc (pApp (Sel.sc Sel.ha) pNil))))
        replace h := cf hx731 h
        cases h
      replace h := cf hc h
      refine wc_skip ?_
      refine wx_then ?_
      refine wc_seq ?_
      refine wc_region ?_
      refine wl_pure (v := .pointer (some ⟨b5, 5, none⟩)) tt_ok rfl rfl ?_
      refine wl_val (v := .int .u8 (IntKind.wrap .u8 (v20.Life - (1 : Int)))) (val_load tt_ok rfl (List.Mem.tail _ (List.Mem.head _)) rfl) rfl ?_
      refine wl_pure (v := .bool (decide ((0 : Int) < (IntKind.wrap .u8 (v20.Life - (1 : Int)))))) tt_ok rfl rfl ?_
      refine wl_nil ?_
      refine wx_then ?_
      refine wc_cond rfl (fun hc => ?_) (fun hc => ?_)
      · replace h := ct hc h
        refine wc_region ?_
        refine wl_pure (v := .pointer (some ⟨b1, 16, none⟩)) tt_ok rfl rfl ?_
        refine wl_val (v := .slice j11_n1_f3a0 j11_n1_f3n0 j11_n1_f3c0) (val_load tt_ok rfl (List.Mem.tail _ (List.Mem.tail _ (List.Mem.head _))) rfl) rfl ?_
        refine wl_val (v := .agg #[.int .i32 (IntKind.wrap .i32 (v20.X + v20.VX)), .int .i32 (IntKind.wrap .i32 (v20.Y + v20.VY)), .int .i32 v20.VX, .int .i32 v20.VY, .int .u8 v20.Owner, .int .u8 (IntKind.wrap .u8 (v20.Life - (1 : Int)))]) (val_load tt_ok rfl (List.Mem.tail _ (List.Mem.head _)) rfl) rfl ?_
        refine wl_chg (chg_bsv (enc := c_T_api_Shot) (xs := ([(T_api_Shot.mk (IntKind.wrap .i32 (v20.X + v20.VX)) (IntKind.wrap .i32 (v20.Y + v20.VY)) v20.VX v20.VY v20.Owner (IntKind.wrap .u8 (v20.Life - (1 : Int))))] : List T_api_Shot)) tt_ok rfl rfl rfl rfl rfl rfl rfl rfl c_T_api_Shot_len) rfl ?_
        rintro _ _ ⟨a92, n92_, c92, B92, rfl, N92, V92, rfl⟩
        replace h := bsome h; obtain ⟨v93, x93, h⟩ := h
        refine wl_chg (chg_app (enc := c_T_api_Shot) (ys := ([(T_api_Shot.mk (IntKind.wrap .i32 (v20.X + v20.VX)) (IntKind.wrap .i32 (v20.Y + v20.VY)) v20.VX v20.VY v20.Owner (IntKind.wrap .u8 (v20.Life - (1 : Int))))] : List T_api_Shot)) tt_ok rfl rfl rfl rfl rfl rfl j11_n1_f3N0 N92 j11_n1_f3V0 (Sel.sa (Sel.sc (Sel.sc (Sel.sc (Sel.sc Sel.ha))))) (Rds.of_vec V92) ⟨_, Sel.ha⟩ c_T_api_Shot_len (fun _ => rfl) rfl x93) rfl ?_
        rintro _ _ ⟨a93, n93_, c93, B93, rfl, N93, V93, rfl⟩
        refine wl_pure (v := .pointer (some ⟨b1, 16, none⟩)) tt_ok rfl rfl ?_
        apply wl_store tt_ok; rfl; exact (Upd.right (Upd.right (Upd.there (Upd.there Upd.here)))); rfl; rfl; rfl; rfl; rfl; rfl
        refine wl_nil ?_
        refine wx_block ?_
        refine wx_then ?_
        refine wc_region ?_
        refine wl_pure tt_ok rfl rfl ?_
        refine wl_pure (v := .int .i64 (IntKind.wrap .i64 (j11_4 + (1 : Int)))) tt_ok rfl rfl ?_
        refine wl_pure tt_ok rfl rfl ?_
        refine wl_nil ?_
        exact wx_round m11 (Nat.lt_succ_self m11) ⟨(IntKind.wrap .i64 (j11_4 + (1 : Int))), j11_n1_f2, v93, j11_n1_f4, a93, n93_, c93, B93, h, N93, V93, rfl, rfl⟩ (agree_cons rfl (agree_cons rfl (agree_cons rfl (agree_cons rfl agree_nil)))) (pSub (pCons (Sel.sa (Sel.sa (Sel.sc (Sel.sc Sel.hc)))) (pCons (Sel.sa (Sel.sa (Sel.sc (Sel.sc Sel.hc)))) (pApp Sel.ha pNil))))
      replace h := cf hc h
      refine wc_skip ?_
      refine wx_block ?_
      refine wx_then ?_
      refine wc_region ?_
      refine wl_pure tt_ok rfl rfl ?_
      refine wl_pure (v := .int .i64 (IntKind.wrap .i64 (j11_4 + (1 : Int)))) tt_ok rfl rfl ?_
      refine wl_pure tt_ok rfl rfl ?_
      refine wl_nil ?_
      exact wx_round m11 (Nat.lt_succ_self m11) ⟨(IntKind.wrap .i64 (j11_4 + (1 : Int))), j11_n1_f2, j11_n1_f3, j11_n1_f4, j11_n1_f3a0, j11_n1_f3n0, j11_n1_f3c0, j11_n1_f3B0, h, j11_n1_f3N0, j11_n1_f3V0, rfl, rfl⟩ (agree_cons rfl (agree_cons rfl (agree_cons rfl (agree_cons rfl agree_nil)))) (pSub (pCons (Sel.sc (Sel.sc Sel.hc)) (pCons (Sel.sc (Sel.sc Sel.hc)) (pApp (Sel.sc (Sel.sc Sel.ha)) pNil))))
    replace h := cf hx530 h
    rcases Bool.eq_false_or_eq_true ((IntKind.wrap .u8 ((1 : Int) - v20.Owner)) == (1 : Int)) with hx531 | hx531
    · replace h := ct hx531 h
      refine wq_val (v := .pointer (some ⟨b1, 9, none⟩)) (val_ia (j := 1) tt_ok rfl rfl rfl rfl (by simpa using hx531) rfl rfl) rfl ?_
      refine wq_val (v := .agg #[.int .i32 j11_n1_f2.2.X, .int .i32 j11_n1_f2.2.Y, .int .i32 j11_n1_f2.2.VX, .int .i32 j11_n1_f2.2.VY, .int .u8 j11_n1_f2.2.Health, .int .u8 j11_n1_f2.2.Cool, .int .u8 j11_n1_f2.2.Face]) (val_load tt_ok rfl (List.Mem.tail _ (List.Mem.tail _ (List.Mem.head _))) rfl) rfl ?_
      replace h := bsome h; obtain ⟨v55, x55, h⟩ := h
      refine wq_cq Tryd.call77 rfl rfl rfl (q_pf (k_hindcastref09_Box x55) (fun _ _ => trivial)) rfl ?_
      replace h := bsome h; obtain ⟨v56, x56, h⟩ := h
      refine wq_cq Tryd.call76 rfl rfl rfl (q_pf (k_hindcastref07_Over x56) (fun _ _ => trivial)) rfl ?_
      refine wq_nil ?_
      refine wx_then ?_
      refine wc_cond rfl (fun hc => ?_) (fun hc => ?_)
      · replace h := ct hc h
        refine wc_seq ?_
        refine wc_region ?_
        refine wl_pure tt_ok rfl rfl ?_
        refine wl_pure (v := .pointer (some ⟨b1, 2, none⟩)) tt_ok rfl rfl ?_
        refine wl_val (v := .pointer (some ⟨b1, 9, none⟩)) (val_ia (j := 1) tt_ok rfl rfl rfl rfl (by simpa using hx531) rfl rfl) rfl ?_
        refine wl_pure (v := .pointer (some ⟨b1, 13, none⟩)) tt_ok rfl rfl ?_
        refine wl_val (v := .int .u8 j11_n1_f2.2.Health) (val_load tt_ok rfl (List.Mem.tail _ (List.Mem.tail _ (List.Mem.head _))) rfl) rfl ?_
        refine wl_pure tt_ok rfl rfl ?_
        refine wl_nil ?_
        refine wx_then ?_
        refine wc_seq ?_
        refine wc_seq ?_
        refine wc_region ?_
        refine wl_pure tt_ok rfl rfl ?_
        refine wl_pure (v := .bool (decide (j11_n1_f2.2.Health < (10 : Int)))) tt_ok rfl rfl ?_
        refine wl_nil ?_
        refine wx_then ?_
        replace h := bsome h; obtain ⟨j47_8, h, hj47⟩ := h
        refine wc_join2 (fun E L => E = [(1, .pointer (some ⟨b1, 0, none⟩)), (2, .pointer (some ⟨b2, 0, none⟩)), (3, .slice p0a0 p0n0 p0c0), (4, .int .i64 j11_4), (5, .pointer (some ⟨b5, 0, none⟩)), (7, .int .u8 (IntKind.wrap .u8 ((1 : Int) - v20.Owner))), (8, .int .u8 j47_8)] ∧ L = (⟨b1, [.int .u64 p0.Frame, .int .u64 p0.Seed, .int .i32 j11_n1_f2.1.X, .int .i32 j11_n1_f2.1.Y, .int .i32 j11_n1_f2.1.VX, .int .i32 j11_n1_f2.1.VY, .int .u8 j11_n1_f2.1.Health, .int .u8 j11_n1_f2.1.Cool, .int .u8 j11_n1_f2.1.Face, .int .i32 j11_n1_f2.2.X, .int .i32 j11_n1_f2.2.Y, .int .i32 j11_n1_f2.2.VX, .int .i32 j11_n1_f2.2.VY, .int .u8 j11_n1_f2.2.Health, .int .u8 j11_n1_f2.2.Cool, .int .u8 j11_n1_f2.2.Face, .slice j11_n1_f3a0 j11_n1_f3n0 j11_n1_f3c0, .int .u16 j11_n1_f4.1, .int .u16 j11_n1_f4.2], 30, (0, 0)⟩ :: (⟨b2, [.int .u64 (0 : Int), .int .u64 (0 : Int), .int .i32 (0 : Int), .int .i32 (0 : Int), .int .i32 (0 : Int), .int .i32 (0 : Int), .int .u8 (0 : Int), .int .u8 (0 : Int), .int .u8 (0 : Int), .int .i32 (0 : Int), .int .i32 (0 : Int), .int .i32 (0 : Int), .int .i32 (0 : Int), .int .u8 (0 : Int), .int .u8 (0 : Int), .int .u8 (0 : Int), .slice none 0 0, .int .u16 (0 : Int), .int .u16 (0 : Int)], 30, (0, 0)⟩ :: (⟨b5, [.int .i32 (IntKind.wrap .i32 (v20.X + v20.VX)), .int .i32 (IntKind.wrap .i32 (v20.Y + v20.VY)), .int .i32 v20.VX, .int .i32 v20.VY, .int .u8 v20.Owner, .int .u8 (IntKind.wrap .u8 (v20.Life - (1 : Int)))], 66, (0, 0)⟩ :: (j11_n1_f3B0 ++ []))))) ?_ ?_
        · refine wc_cond rfl (fun hc => ?_) (fun hc => ?_)
          · replace h := ct hc h
            refine wc_region ?_
            refine wl_pure tt_ok rfl rfl ?_
            refine wl_nil ?_
            simp only [Option.some.injEq] at h
            obtain rfl := h
            exact wx_join ⟨rfl, rfl⟩ (agree_cons rfl (agree_cons rfl (agree_cons rfl (agree_cons rfl (agree_cons rfl (agree_cons rfl (agree_cons rfl agree_nil))))))) (pSub (pCons (Sel.sc (Sel.sc Sel.hc)) (pCons (Sel.sc (Sel.sc Sel.hc)) (pCons (Sel.sc Sel.hc) (pApp (Sel.sc Sel.ha) pNil)))))
          replace h := cf hc h
          refine wc_skip ?_
          simp only [Option.some.injEq] at h
          obtain rfl := h
          exact wx_join ⟨rfl, rfl⟩ (agree_cons rfl (agree_cons rfl (agree_cons rfl (agree_cons rfl (agree_cons rfl (agree_cons rfl (agree_cons rfl agree_nil))))))) (pSub (pCons (Sel.sc (Sel.sc Sel.hc)) (pCons (Sel.sc (Sel.sc Sel.hc)) (pCons (Sel.sc Sel.hc) (pApp (Sel.sc Sel.ha) pNil)))))
        rintro _ _ ⟨rfl, rfl⟩
        have h := hj47; clear hj47
        refine wc_seq ?_
        refine wc_region ?_
        refine wl_pure tt_ok rfl rfl ?_
        refine wl_pure tt_ok rfl rfl ?_
        refine wl_pure (v := .int .u8 (IntKind.wrap .u8 (j47_8 - (10 : Int)))) tt_ok rfl rfl ?_
        refine wl_pure (v := .pointer (some ⟨b1, 2, none⟩)) tt_ok rfl rfl ?_
        refine wl_val (v := .pointer (some ⟨b1, 9, none⟩)) (val_ia (j := 1) tt_ok rfl rfl rfl rfl (by simpa using hx531) rfl rfl) rfl ?_
        refine wl_pure (v := .pointer (some ⟨b1, 13, none⟩)) tt_ok rfl rfl ?_
        apply wl_store tt_ok; rfl; exact Upd.here; rfl; rfl; rfl; rfl; rfl; rfl
        refine wl_nil ?_
        refine wx_then ?_
        refine wc_seq ?_
        refine wc_seq ?_
        refine wc_region ?_
        refine wl_pure (v := .pointer (some ⟨b5, 4, none⟩)) tt_ok rfl rfl ?_
        refine wl_val (v := .int .u8 v20.Owner) (val_load tt_ok rfl (List.Mem.tail _ (List.Mem.tail _ (List.Mem.head _))) rfl) rfl ?_
        refine wl_pure (v := .pointer (some ⟨b1, 17, none⟩)) tt_ok rfl rfl ?_
        rcases Bool.eq_false_or_eq_true (v20.Owner == (0 : Int)) with hx730 | hx730
        · replace h := ct hx730 h
          refine wl_val (v := .pointer (some ⟨b1, 17, none⟩)) (val_ia (j := 0) tt_ok rfl rfl rfl rfl (by simpa using hx730) rfl rfl) rfl ?_
          refine wl_val (v := .int .u16 j11_n1_f4.1) (val_load tt_ok rfl (List.Mem.head _) rfl) rfl ?_
          refine wl_pure (v := .bool (decide (j11_n1_f4.1 < (65535 : Int)))) tt_ok rfl rfl ?_
          refine wl_nil ?_
          refine wx_then ?_
          refine wc_cond rfl (fun hc => ?_) (fun hc => ?_)
          · replace h := ct hc h
            refine wc_k2 (Ls := (⟨b1, [.int .u64 p0.Frame, .int .u64 p0.Seed, .int .i32 j11_n1_f2.1.X, .int .i32 j11_n1_f2.1.Y, .int .i32 j11_n1_f2.1.VX, .int .i32 j11_n1_f2.1.VY, .int .u8 j11_n1_f2.1.Health, .int .u8 j11_n1_f2.1.Cool, .int .u8 j11_n1_f2.1.Face, .int .i32 j11_n1_f2.2.X, .int .i32 j11_n1_f2.2.Y, .int .i32 j11_n1_f2.2.VX, .int .i32 j11_n1_f2.2.VY, .int .u8 (IntKind.wrap .u8 (j47_8 - (10 : Int))), .int .u8 j11_n1_f2.2.Cool, .int .u8 j11_n1_f2.2.Face, .slice j11_n1_f3a0 j11_n1_f3n0 j11_n1_f3c0, .int .u16 j11_n1_f4.1, .int .u16 j11_n1_f4.2], 30, (0, 0)⟩ :: (⟨b2, [.int .u64 (0 : Int), .int .u64 (0 : Int), .int .i32 (0 : Int), .int .i32 (0 : Int), .int .i32 (0 : Int), .int .i32 (0 : Int), .int .u8 (0 : Int), .int .u8 (0 : Int), .int .u8 (0 : Int), .int .i32 (0 : Int), .int .i32 (0 : Int), .int .i32 (0 : Int), .int .i32 (0 : Int), .int .u8 (0 : Int), .int .u8 (0 : Int), .int .u8 (0 : Int), .slice none 0 0, .int .u16 (0 : Int), .int .u16 (0 : Int)], 30, (0, 0)⟩ :: (⟨b5, [.int .i32 (IntKind.wrap .i32 (v20.X + v20.VX)), .int .i32 (IntKind.wrap .i32 (v20.Y + v20.VY)), .int .i32 v20.VX, .int .i32 v20.VY, .int .u8 v20.Owner, .int .u8 (IntKind.wrap .u8 (v20.Life - (1 : Int)))], 66, (0, 0)⟩ :: (j11_n1_f3B0 ++ []))))) [10] [10] [0, 1, 0, 4, 0, 28, 60, 124, 0, 511, 1023] [0, 1, 2, 3, 4, 5, 6, 7, 8, 9, 10] (by kernel_rfl) (by kernel_rfl) (by kernel_rfl) ?_
            refine k_val (v := .pointer (some ⟨b5, 4, none⟩)) rfl rfl rfl (pSub (pCons Sel.hc (pCons Sel.hc (pCons Sel.hc (pApp Sel.ha pNil))))) (stepV_ok tt_ok rfl) rfl ?_
            refine k_val (v := .int .u8 v20.Owner) rfl rfl rfl (pSub (pCons Sel.hc (pCons Sel.hc (pCons Sel.hc (pApp Sel.ha pNil))))) (val_load tt_ok rfl (List.Mem.tail _ (List.Mem.tail _ (List.Mem.head _))) rfl) rfl ?_
            refine k_val (v := .pointer (some ⟨b5, 4, none⟩)) rfl rfl rfl (pSub (pCons Sel.hc (pCons Sel.hc (pCons Sel.hc (pApp Sel.ha pNil))))) (stepV_ok tt_ok rfl) rfl ?_
            refine k_val (v := .int .u8 v20.Owner) rfl rfl rfl (pSub (pCons Sel.hc (pCons Sel.hc (pCons Sel.hc (pApp Sel.ha pNil))))) (val_load tt_ok rfl (List.Mem.tail _ (List.Mem.tail _ (List.Mem.head _))) rfl) rfl ?_
            refine k_val (v := .pointer (some ⟨b1, 17, none⟩)) rfl rfl rfl (pSub (pCons Sel.hc (pCons Sel.hc (pCons Sel.hc (pApp Sel.ha pNil))))) (stepV_ok tt_ok rfl) rfl ?_
            refine k_val (v := .pointer (some ⟨b1, 17, none⟩)) rfl rfl rfl (pSub (pCons Sel.hc (pCons Sel.hc (pCons Sel.hc (pApp Sel.ha pNil))))) (val_ia (j := 0) tt_ok rfl rfl rfl rfl (by simpa using hx730) rfl rfl) rfl ?_
            refine k_val (v := .int .u16 j11_n1_f4.1) rfl rfl rfl (pSub (pCons Sel.hc (pCons Sel.hc (pCons Sel.hc (pApp Sel.ha pNil))))) (val_load tt_ok rfl (List.Mem.head _) rfl) rfl ?_
            refine k_val (v := .int .u16 (IntKind.wrap .u16 (j11_n1_f4.1 + (1 : Int)))) rfl rfl rfl (pSub (pCons Sel.hc (pCons Sel.hc (pCons Sel.hc (pApp Sel.ha pNil))))) (stepV_ok tt_ok rfl) rfl ?_
            refine k_val (v := .pointer (some ⟨b1, 17, none⟩)) rfl rfl rfl (pSub (pCons Sel.hc (pCons Sel.hc (pCons Sel.hc (pApp Sel.ha pNil))))) (stepV_ok tt_ok rfl) rfl ?_
            refine k_val (v := .pointer (some ⟨b1, 17, none⟩)) rfl rfl rfl (pSub (pCons Sel.hc (pCons Sel.hc (pCons Sel.hc (pApp Sel.ha pNil))))) (val_ia (j := 0) tt_ok rfl rfl rfl rfl (by simpa using hx730) rfl rfl) rfl ?_
            refine k_chg0 rfl rfl rfl (chg_store tt_ok rfl Upd.here rfl rfl rfl rfl rfl rfl) (.inl rfl) ?_
            rintro _ _ rfl
            refine k_end (by kernel_rfl) ?_
            refine wx_then ?_
            refine wc_exit ?_
            refine wx_then_exit ?_
            refine wx_block_exit ?_
            refine wx_then ?_
            refine wc_region ?_
            refine wl_pure tt_ok rfl rfl ?_
            refine wl_pure (v := .int .i64 (IntKind.wrap .i64 (j11_4 + (1 : Int)))) tt_ok rfl rfl ?_
            refine wl_pure tt_ok rfl rfl ?_
            refine wl_nil ?_
            exact wx_round m11 (Nat.lt_succ_self m11) ⟨(IntKind.wrap .i64 (j11_4 + (1 : Int))), (j11_n1_f2.1, (T_api_Player.mk j11_n1_f2.2.X j11_n1_f2.2.Y j11_n1_f2.2.VX j11_n1_f2.2.VY (IntKind.wrap .u8 (j47_8 - (10 : Int))) j11_n1_f2.2.Cool j11_n1_f2.2.Face)), j11_n1_f3, ((IntKind.wrap .u16 (j11_n1_f4.1 + (1 : Int))), j11_n1_f4.2), j11_n1_f3a0, j11_n1_f3n0, j11_n1_f3c0, j11_n1_f3B0, h, j11_n1_f3N0, j11_n1_f3V0, rfl, rfl⟩ (agree_cons rfl (agree_cons rfl (agree_cons rfl (agree_cons rfl agree_nil)))) (pSub (pCons Sel.hc (pCons Sel.hc (pApp (Sel.sc Sel.ha) pNil))))
          replace h := cf hc h
          refine wc_skip ?_
          refine wx_then ?_
          refine wc_exit ?_
          refine wx_then_exit ?_
          refine wx_block_exit ?_
          refine wx_then ?_
          refine wc_region ?_
          refine wl_pure tt_ok rfl rfl ?_
          refine wl_pure (v := .int .i64 (IntKind.wrap .i64 (j11_4 + (1 : Int)))) tt_ok rfl rfl ?_
          refine wl_pure tt_ok rfl rfl ?_
          refine wl_nil ?_
          exact wx_round m11 (Nat.lt_succ_self m11) ⟨(IntKind.wrap .i64 (j11_4 + (1 : Int))), (j11_n1_f2.1, (T_api_Player.mk j11_n1_f2.2.X j11_n1_f2.2.Y j11_n1_f2.2.VX j11_n1_f2.2.VY (IntKind.wrap .u8 (j47_8 - (10 : Int))) j11_n1_f2.2.Cool j11_n1_f2.2.Face)), j11_n1_f3, j11_n1_f4, j11_n1_f3a0, j11_n1_f3n0, j11_n1_f3c0, j11_n1_f3B0, h, j11_n1_f3N0, j11_n1_f3V0, rfl, rfl⟩ (agree_cons rfl (agree_cons rfl (agree_cons rfl (agree_cons rfl agree_nil)))) (pSub (pCons Sel.hc (pCons Sel.hc (pApp (Sel.sc Sel.ha) pNil))))
        replace h := cf hx730 h
        rcases Bool.eq_false_or_eq_true (v20.Owner == (1 : Int)) with hx731 | hx731
        · replace h := ct hx731 h
          refine wl_val (v := .pointer (some ⟨b1, 18, none⟩)) (val_ia (j := 1) tt_ok rfl rfl rfl rfl (by simpa using hx731) rfl rfl) rfl ?_
          refine wl_val (v := .int .u16 j11_n1_f4.2) (val_load tt_ok rfl (List.Mem.head _) rfl) rfl ?_
          refine wl_pure (v := .bool (decide (j11_n1_f4.2 < (65535 : Int)))) tt_ok rfl rfl ?_
          refine wl_nil ?_
          refine wx_then ?_
          refine wc_cond rfl (fun hc => ?_) (fun hc => ?_)
          · replace h := ct hc h
            refine wc_k2 (Ls := (⟨b1, [.int .u64 p0.Frame, .int .u64 p0.Seed, .int .i32 j11_n1_f2.1.X, .int .i32 j11_n1_f2.1.Y, .int .i32 j11_n1_f2.1.VX, .int .i32 j11_n1_f2.1.VY, .int .u8 j11_n1_f2.1.Health, .int .u8 j11_n1_f2.1.Cool, .int .u8 j11_n1_f2.1.Face, .int .i32 j11_n1_f2.2.X, .int .i32 j11_n1_f2.2.Y, .int .i32 j11_n1_f2.2.VX, .int .i32 j11_n1_f2.2.VY, .int .u8 (IntKind.wrap .u8 (j47_8 - (10 : Int))), .int .u8 j11_n1_f2.2.Cool, .int .u8 j11_n1_f2.2.Face, .slice j11_n1_f3a0 j11_n1_f3n0 j11_n1_f3c0, .int .u16 j11_n1_f4.1, .int .u16 j11_n1_f4.2], 30, (0, 0)⟩ :: (⟨b2, [.int .u64 (0 : Int), .int .u64 (0 : Int), .int .i32 (0 : Int), .int .i32 (0 : Int), .int .i32 (0 : Int), .int .i32 (0 : Int), .int .u8 (0 : Int), .int .u8 (0 : Int), .int .u8 (0 : Int), .int .i32 (0 : Int), .int .i32 (0 : Int), .int .i32 (0 : Int), .int .i32 (0 : Int), .int .u8 (0 : Int), .int .u8 (0 : Int), .int .u8 (0 : Int), .slice none 0 0, .int .u16 (0 : Int), .int .u16 (0 : Int)], 30, (0, 0)⟩ :: (⟨b5, [.int .i32 (IntKind.wrap .i32 (v20.X + v20.VX)), .int .i32 (IntKind.wrap .i32 (v20.Y + v20.VY)), .int .i32 v20.VX, .int .i32 v20.VY, .int .u8 v20.Owner, .int .u8 (IntKind.wrap .u8 (v20.Life - (1 : Int)))], 66, (0, 0)⟩ :: (j11_n1_f3B0 ++ []))))) [10] [10] [0, 1, 0, 4, 0, 28, 60, 124, 0, 511, 1023] [0, 1, 2, 3, 4, 5, 6, 7, 8, 9, 10] (by kernel_rfl) (by kernel_rfl) (by kernel_rfl) ?_
            refine k_val (v := .pointer (some ⟨b5, 4, none⟩)) rfl rfl rfl (pSub (pCons Sel.hc (pCons Sel.hc (pCons Sel.hc (pApp Sel.ha pNil))))) (stepV_ok tt_ok rfl) rfl ?_
            refine k_val (v := .int .u8 v20.Owner) rfl rfl rfl (pSub (pCons Sel.hc (pCons Sel.hc (pCons Sel.hc (pApp Sel.ha pNil))))) (val_load tt_ok rfl (List.Mem.tail _ (List.Mem.tail _ (List.Mem.head _))) rfl) rfl ?_
            refine k_val (v := .pointer (some ⟨b5, 4, none⟩)) rfl rfl rfl (pSub (pCons Sel.hc (pCons Sel.hc (pCons Sel.hc (pApp Sel.ha pNil))))) (stepV_ok tt_ok rfl) rfl ?_
            refine k_val (v := .int .u8 v20.Owner) rfl rfl rfl (pSub (pCons Sel.hc (pCons Sel.hc (pCons Sel.hc (pApp Sel.ha pNil))))) (val_load tt_ok rfl (List.Mem.tail _ (List.Mem.tail _ (List.Mem.head _))) rfl) rfl ?_
            refine k_val (v := .pointer (some ⟨b1, 17, none⟩)) rfl rfl rfl (pSub (pCons Sel.hc (pCons Sel.hc (pCons Sel.hc (pApp Sel.ha pNil))))) (stepV_ok tt_ok rfl) rfl ?_
            refine k_val (v := .pointer (some ⟨b1, 18, none⟩)) rfl rfl rfl (pSub (pCons Sel.hc (pCons Sel.hc (pCons Sel.hc (pApp Sel.ha pNil))))) (val_ia (j := 1) tt_ok rfl rfl rfl rfl (by simpa using hx731) rfl rfl) rfl ?_
            refine k_val (v := .int .u16 j11_n1_f4.2) rfl rfl rfl (pSub (pCons Sel.hc (pCons Sel.hc (pCons Sel.hc (pApp Sel.ha pNil))))) (val_load tt_ok rfl (List.Mem.head _) rfl) rfl ?_
            refine k_val (v := .int .u16 (IntKind.wrap .u16 (j11_n1_f4.2 + (1 : Int)))) rfl rfl rfl (pSub (pCons Sel.hc (pCons Sel.hc (pCons Sel.hc (pApp Sel.ha pNil))))) (stepV_ok tt_ok rfl) rfl ?_
            refine k_val (v := .pointer (some ⟨b1, 17, none⟩)) rfl rfl rfl (pSub (pCons Sel.hc (pCons Sel.hc (pCons Sel.hc (pApp Sel.ha pNil))))) (stepV_ok tt_ok rfl) rfl ?_
            refine k_val (v := .pointer (some ⟨b1, 18, none⟩)) rfl rfl rfl (pSub (pCons Sel.hc (pCons Sel.hc (pCons Sel.hc (pApp Sel.ha pNil))))) (val_ia (j := 1) tt_ok rfl rfl rfl rfl (by simpa using hx731) rfl rfl) rfl ?_
            refine k_chg0 rfl rfl rfl (chg_store tt_ok rfl Upd.here rfl rfl rfl rfl rfl rfl) (.inl rfl) ?_
            rintro _ _ rfl
            refine k_end (by kernel_rfl) ?_
            refine wx_then ?_
            refine wc_exit ?_
            refine wx_then_exit ?_
            refine wx_block_exit ?_
            refine wx_then ?_
            refine wc_region ?_
            refine wl_pure tt_ok rfl rfl ?_
            refine wl_pure (v := .int .i64 (IntKind.wrap .i64 (j11_4 + (1 : Int)))) tt_ok rfl rfl ?_
            refine wl_pure tt_ok rfl rfl ?_
            refine wl_nil ?_
            exact wx_round m11 (Nat.lt_succ_self m11) ⟨(IntKind.wrap .i64 (j11_4 + (1 : Int))), (j11_n1_f2.1, (T_api_Player.mk j11_n1_f2.2.X j11_n1_f2.2.Y j11_n1_f2.2.VX j11_n1_f2.2.VY (IntKind.wrap .u8 (j47_8 - (10 : Int))) j11_n1_f2.2.Cool j11_n1_f2.2.Face)), j11_n1_f3, (j11_n1_f4.1, (IntKind.wrap .u16 (j11_n1_f4.2 + (1 : Int)))), j11_n1_f3a0, j11_n1_f3n0, j11_n1_f3c0, j11_n1_f3B0, h, j11_n1_f3N0, j11_n1_f3V0, rfl, rfl⟩ (agree_cons rfl (agree_cons rfl (agree_cons rfl (agree_cons rfl agree_nil)))) (pSub (pCons Sel.hc (pCons Sel.hc (pApp (Sel.sc Sel.ha) pNil))))
          replace h := cf hc h
          refine wc_skip ?_
          refine wx_then ?_
          refine wc_exit ?_
          refine wx_then_exit ?_
          refine wx_block_exit ?_
          refine wx_then ?_
          refine wc_region ?_
          refine wl_pure tt_ok rfl rfl ?_
          refine wl_pure (v := .int .i64 (IntKind.wrap .i64 (j11_4 + (1 : Int)))) tt_ok rfl rfl ?_
          refine wl_pure tt_ok rfl rfl ?_
          refine wl_nil ?_
          exact wx_round m11 (Nat.lt_succ_self m11) ⟨(IntKind.wrap .i64 (j11_4 + (1 : Int))), (j11_n1_f2.1, (T_api_Player.mk j11_n1_f2.2.X j11_n1_f2.2.Y j11_n1_f2.2.VX j11_n1_f2.2.VY (IntKind.wrap .u8 (j47_8 - (10 : Int))) j11_n1_f2.2.Cool j11_n1_f2.2.Face)), j11_n1_f3, j11_n1_f4, j11_n1_f3a0, j11_n1_f3n0, j11_n1_f3c0, j11_n1_f3B0, h, j11_n1_f3N0, j11_n1_f3V0, rfl, rfl⟩ (agree_cons rfl (agree_cons rfl (agree_cons rfl (agree_cons rfl agree_nil)))) (pSub (pCons Sel.hc (pCons Sel.hc (pApp (Sel.sc Sel.ha) pNil))))
        replace h := cf hx731 h
        cases h
      replace h := cf hc h
      refine wc_skip ?_
      refine wx_then ?_
      refine wc_seq ?_
      refine wc_region ?_
      refine wl_pure (v := .pointer (some ⟨b5, 5, none⟩)) tt_ok rfl rfl ?_
      refine wl_val (v := .int .u8 (IntKind.wrap .u8 (v20.Life - (1 : Int)))) (val_load tt_ok rfl (List.Mem.tail _ (List.Mem.head _)) rfl) rfl ?_
      refine wl_pure (v := .bool (decide ((0 : Int) < (IntKind.wrap .u8 (v20.Life - (1 : Int)))))) tt_ok rfl rfl ?_
      refine wl_nil ?_
      refine wx_then ?_
      refine wc_cond rfl (fun hc => ?_) (fun hc => ?_)
      · replace h := ct hc h
        refine wc_region ?_
        refine wl_pure (v := .pointer (some ⟨b1, 16, none⟩)) tt_ok rfl rfl ?_
        refine wl_val (v := .slice j11_n1_f3a0 j11_n1_f3n0 j11_n1_f3c0) (val_load tt_ok rfl (List.Mem.tail _ (List.Mem.tail _ (List.Mem.head _))) rfl) rfl ?_
        refine wl_val (v := .agg #[.int .i32 (IntKind.wrap .i32 (v20.X + v20.VX)), .int .i32 (IntKind.wrap .i32 (v20.Y + v20.VY)), .int .i32 v20.VX, .int .i32 v20.VY, .int .u8 v20.Owner, .int .u8 (IntKind.wrap .u8 (v20.Life - (1 : Int)))]) (val_load tt_ok rfl (List.Mem.tail _ (List.Mem.head _)) rfl) rfl ?_
        refine wl_chg (chg_bsv (enc := c_T_api_Shot) (xs := ([(T_api_Shot.mk (IntKind.wrap .i32 (v20.X + v20.VX)) (IntKind.wrap .i32 (v20.Y + v20.VY)) v20.VX v20.VY v20.Owner (IntKind.wrap .u8 (v20.Life - (1 : Int))))] : List T_api_Shot)) tt_ok rfl rfl rfl rfl rfl rfl rfl rfl c_T_api_Shot_len) rfl ?_
        rintro _ _ ⟨a92, n92_, c92, B92, rfl, N92, V92, rfl⟩
        replace h := bsome h; obtain ⟨v93, x93, h⟩ := h
        refine wl_chg (chg_app (enc := c_T_api_Shot) (ys := ([(T_api_Shot.mk (IntKind.wrap .i32 (v20.X + v20.VX)) (IntKind.wrap .i32 (v20.Y + v20.VY)) v20.VX v20.VY v20.Owner (IntKind.wrap .u8 (v20.Life - (1 : Int))))] : List T_api_Shot)) tt_ok rfl rfl rfl rfl rfl rfl j11_n1_f3N0 N92 j11_n1_f3V0 (Sel.sa (Sel.sc (Sel.sc (Sel.sc (Sel.sc Sel.ha))))) (Rds.of_vec V92) ⟨_, Sel.ha⟩ c_T_api_Shot_len (fun _ => rfl) rfl x93) rfl ?_
        rintro _ _ ⟨a93, n93_, c93, B93, rfl, N93, V93, rfl⟩
        refine wl_pure (v := .pointer (some ⟨b1, 16, none⟩)) tt_ok rfl rfl ?_
        apply wl_store tt_ok; rfl; exact (Upd.right (Upd.right (Upd.there (Upd.there Upd.here)))); rfl; rfl; rfl; rfl; rfl; rfl
        refine wl_nil ?_
        refine wx_block ?_
        refine wx_then ?_
        refine wc_region ?_
        refine wl_pure tt_ok rfl rfl ?_
        refine wl_pure (v := .int .i64 (IntKind.wrap .i64 (j11_4 + (1 : Int)))) tt_ok rfl rfl ?_
        refine wl_pure tt_ok rfl rfl ?_
        refine wl_nil ?_
        exact wx_round m11 (Nat.lt_succ_self m11) ⟨(IntKind.wrap .i64 (j11_4 + (1 : Int))), j11_n1_f2, v93, j11_n1_f4, a93, n93_, c93, B93, h, N93, V93, rfl, rfl⟩ (agree_cons rfl (agree_cons rfl (agree_cons rfl (agree_cons rfl agree_nil)))) (pSub (pCons (Sel.sa (Sel.sa (Sel.sc (Sel.sc Sel.hc)))) (pCons (Sel.sa (Sel.sa (Sel.sc (Sel.sc Sel.hc)))) (pApp Sel.ha pNil))))
      replace h := cf hc h
      refine wc_skip ?_
      refine wx_block ?_
      refine wx_then ?_
      refine wc_region ?_
      refine wl_pure tt_ok rfl rfl ?_
      refine wl_pure (v := .int .i64 (IntKind.wrap .i64 (j11_4 + (1 : Int)))) tt_ok rfl rfl ?_
      refine wl_pure tt_ok rfl rfl ?_
      refine wl_nil ?_
      exact wx_round m11 (Nat.lt_succ_self m11) ⟨(IntKind.wrap .i64 (j11_4 + (1 : Int))), j11_n1_f2, j11_n1_f3, j11_n1_f4, j11_n1_f3a0, j11_n1_f3n0, j11_n1_f3c0, j11_n1_f3B0, h, j11_n1_f3N0, j11_n1_f3V0, rfl, rfl⟩ (agree_cons rfl (agree_cons rfl (agree_cons rfl (agree_cons rfl agree_nil)))) (pSub (pCons (Sel.sc (Sel.sc Sel.hc)) (pCons (Sel.sc (Sel.sc Sel.hc)) (pApp (Sel.sc (Sel.sc Sel.ha)) pNil))))
    replace h := cf hx531 h
    cases h
  replace h := cf hc h
  refine wc_exit ?_
  refine wx_then_exit ?_
  simp only [Option.some.injEq, Prod.mk.injEq] at h
  obtain ⟨rfl, rfl, rfl⟩ := h
  have h := hl11; clear hl11; try dsimp only [orE_l, orE_r] at h
  refine wx_then_exit ?_
  refine wx_block_exit ?_
  refine wx_then ?_
  refine wc_seq ?_
  refine wc_region ?_
  refine wl_val (v := .agg #[.int .u64 p0.Frame, .int .u64 p0.Seed, .int .i32 j11_n1_f2.1.X, .int .i32 j11_n1_f2.1.Y, .int .i32 j11_n1_f2.1.VX, .int .i32 j11_n1_f2.1.VY, .int .u8 j11_n1_f2.1.Health, .int .u8 j11_n1_f2.1.Cool, .int .u8 j11_n1_f2.1.Face, .int .i32 j11_n1_f2.2.X, .int .i32 j11_n1_f2.2.Y, .int .i32 j11_n1_f2.2.VX, .int .i32 j11_n1_f2.2.VY, .int .u8 j11_n1_f2.2.Health, .int .u8 j11_n1_f2.2.Cool, .int .u8 j11_n1_f2.2.Face, .slice j11_n1_f3a0 j11_n1_f3n0 j11_n1_f3c0, .int .u16 j11_n1_f4.1, .int .u16 j11_n1_f4.2]) (val_load tt_ok rfl (List.Mem.head _) rfl) rfl ?_
  apply wl_store tt_ok; rfl; exact (Upd.there Upd.here); rfl; rfl; rfl; rfl; rfl; rfl
  refine wl_nil ?_
  refine wx_then ?_
  refine wc_ret ?_
  simp only [Option.some.injEq] at h
  obtain rfl := h
  exact wx_spD tt_ok (.inl rfl) Tryd.results57 (Res.cell rfl (List.Mem.tail _ (List.Mem.head _)) rfl Res.nil) ⟨j11_n1_f3a0, j11_n1_f3n0, j11_n1_f3c0, j11_n1_f3B0, j11_n1_f3N0, j11_n1_f3V0, rfl, rfl⟩ (fun F => by simp) (pSub (pApp (Sel.sc (Sel.sc Sel.ha)) pNil))

theorem k_hindcastref05_Stride {F : Nat} {r0 : Int} (h : m_hindcastref05_Stride F = some r0) :
    Pf Tryd.prog 93 [] (fun w => True) (.int .u64 r0) := by
  unfold m_hindcastref05_Stride at h
  refine pf_of_wc Tryd.func93 rfl Tryd.ntmps93 rfl rfl (fun w0 hR => ?_)
  refine wc_seq ?_
  refine wc_region ?_
  refine wl_pure tt_ok rfl rfl ?_
  refine wl_nil ?_
  refine wx_then ?_
  refine wc_seq ?_
  refine wc_region ?_
  refine wl_pure tt_ok rfl rfl ?_
  refine wl_nil ?_
  refine wx_then ?_
  refine wc_ret ?_
  simp only [Option.some.injEq] at h
  obtain rfl := h
  exact wx_pf tt_ok (.inl rfl) Tryd.results93 (Res.tmp rfl Res.nil) rfl

theorem k_hindcastref05_Mix {F : Nat} {p0 : Int} {r0 : Int} (h : m_hindcastref05_Mix F p0 = some r0) :
    Pf Tryd.prog 94 [.int .u64 p0] (fun w => True) (.int .u64 r0) := by
  unfold m_hindcastref05_Mix at h
  refine pf_of_wc Tryd.func94 rfl Tryd.ntmps94 rfl rfl (fun w0 hR => ?_)
  refine wc_seq ?_
  refine wc_region ?_
  refine wl_pure tt_ok rfl rfl ?_
  refine wl_nil ?_
  refine wx_then ?_
  refine wc_seq ?_
  refine wc_region ?_
  refine wl_pure tt_ok rfl rfl ?_
  refine wl_pure tt_ok rfl rfl ?_
  refine wl_pure (v := .int .u64 (p0 / 2 ^ (min 30 (IntKind.bits .u64)))) tt_ok rfl rfl ?_
  refine wl_pure (v := .int .u64 (bits .xor .u64 p0 (p0 / 2 ^ (min 30 (IntKind.bits .u64))))) tt_ok rfl rfl ?_
  refine wl_pure tt_ok rfl rfl ?_
  refine wl_nil ?_
  refine wx_then ?_
  refine wc_seq ?_
  refine wc_region ?_
  refine wl_pure tt_ok rfl rfl ?_
  refine wl_pure (v := .int .u64 (IntKind.wrap .u64 ((bits .xor .u64 p0 (p0 / 2 ^ (min 30 (IntKind.bits .u64)))) * (13787848793156543929 : Int)))) tt_ok rfl rfl ?_
  refine wl_pure tt_ok rfl rfl ?_
  refine wl_nil ?_
  refine wx_then ?_
  refine wc_seq ?_
  refine wc_region ?_
  refine wl_pure tt_ok rfl rfl ?_
  refine wl_pure tt_ok rfl rfl ?_
  refine wl_pure (v := .int .u64 ((IntKind.wrap .u64 ((bits .xor .u64 p0 (p0 / 2 ^ (min 30 (IntKind.bits .u64)))) * (13787848793156543929 : Int))) / 2 ^ (min 27 (IntKind.bits .u64)))) tt_ok rfl rfl ?_
  refine wl_pure (v := .int .u64 (bits .xor .u64 (IntKind.wrap .u64 ((bits .xor .u64 p0 (p0 / 2 ^ (min 30 (IntKind.bits .u64)))) * (13787848793156543929 : Int))) ((IntKind.wrap .u64 ((bits .xor .u64 p0 (p0 / 2 ^ (min 30 (IntKind.bits .u64)))) * (13787848793156543929 : Int))) / 2 ^ (min 27 (IntKind.bits .u64))))) tt_ok rfl rfl ?_
  refine wl_pure tt_ok rfl rfl ?_
  refine wl_nil ?_
  refine wx_then ?_
  refine wc_seq ?_
  refine wc_region ?_
  refine wl_pure tt_ok rfl rfl ?_
  refine wl_pure (v := .int .u64 (IntKind.wrap .u64 ((bits .xor .u64 (IntKind.wrap .u64 ((bits .xor .u64 p0 (p0 / 2 ^ (min 30 (IntKind.bits .u64)))) * (13787848793156543929 : Int))) ((IntKind.wrap .u64 ((bits .xor .u64 p0 (p0 / 2 ^ (min 30 (IntKind.bits .u64)))) * (13787848793156543929 : Int))) / 2 ^ (min 27 (IntKind.bits .u64)))) * (10723151780598845931 : Int)))) tt_ok rfl rfl ?_
  refine wl_pure tt_ok rfl rfl ?_
  refine wl_nil ?_
  refine wx_then ?_
  refine wc_seq ?_
  refine wc_region ?_
  refine wl_pure tt_ok rfl rfl ?_
  refine wl_pure tt_ok rfl rfl ?_
  refine wl_pure (v := .int .u64 ((IntKind.wrap .u64 ((bits .xor .u64 (IntKind.wrap .u64 ((bits .xor .u64 p0 (p0 / 2 ^ (min 30 (IntKind.bits .u64)))) * (13787848793156543929 : Int))) ((IntKind.wrap .u64 ((bits .xor .u64 p0 (p0 / 2 ^ (min 30 (IntKind.bits .u64)))) * (13787848793156543929 : Int))) / 2 ^ (min 27 (IntKind.bits .u64)))) * (10723151780598845931 : Int))) / 2 ^ (min 31 (IntKind.bits .u64)))) tt_ok rfl rfl ?_
  refine wl_pure (v := .int .u64 (bits .xor .u64 (IntKind.wrap .u64 ((bits .xor .u64 (IntKind.wrap .u64 ((bits .xor .u64 p0 (p0 / 2 ^ (min 30 (IntKind.bits .u64)))) * (13787848793156543929 : Int))) ((IntKind.wrap .u64 ((bits .xor .u64 p0 (p0 / 2 ^ (min 30 (IntKind.bits .u64)))) * (13787848793156543929 : Int))) / 2 ^ (min 27 (IntKind.bits .u64)))) * (10723151780598845931 : Int))) ((IntKind.wrap .u64 ((bits .xor .u64 (IntKind.wrap .u64 ((bits .xor .u64 p0 (p0 / 2 ^ (min 30 (IntKind.bits .u64)))) * (13787848793156543929 : Int))) ((IntKind.wrap .u64 ((bits .xor .u64 p0 (p0 / 2 ^ (min 30 (IntKind.bits .u64)))) * (13787848793156543929 : Int))) / 2 ^ (min 27 (IntKind.bits .u64)))) * (10723151780598845931 : Int))) / 2 ^ (min 31 (IntKind.bits .u64))))) tt_ok rfl rfl ?_
  refine wl_pure tt_ok rfl rfl ?_
  refine wl_nil ?_
  refine wx_then ?_
  refine wc_ret ?_
  simp only [Option.some.injEq] at h
  obtain rfl := h
  exact wx_pf tt_ok (.inl rfl) Tryd.results94 (Res.tmp rfl Res.nil) rfl

theorem k_hindcastref05_Next {F : Nat} {p0 : Int} {r0 : Int} {r1 : Int} (h : m_hindcastref05_Next F p0 = some (r0, r1)) :
    Pf Tryd.prog 89 [.int .u64 p0] (fun w => True) (.tuple #[.int .u64 r0, .int .u64 r1]) := by
  unfold m_hindcastref05_Next at h
  refine pf_of_wc Tryd.func89 rfl Tryd.ntmps89 rfl rfl (fun w0 hR => ?_)
  refine wc_seq ?_
  refine wc_region ?_
  refine wl_pure tt_ok rfl rfl ?_
  refine wl_pure tt_ok rfl rfl ?_
  refine wl_nil ?_
  refine wx_then ?_
  refine wc_seq ?_
  refine wc_region ?_
  refine wl_pure tt_ok rfl rfl ?_
  replace h := bsome h; obtain ⟨v5, x5, h⟩ := h
  refine wl_cq Tryd.call93 rfl rfl rfl (q_pf (k_hindcastref05_Stride x5) (fun _ _ => trivial)) rfl ?_
  refine wl_pure (v := .int .u64 (IntKind.wrap .u64 (p0 + v5))) tt_ok rfl rfl ?_
  refine wl_pure tt_ok rfl rfl ?_
  refine wl_nil ?_
  refine wx_then ?_
  refine wc_seq ?_
  refine wc_region ?_
  refine wl_pure tt_ok rfl rfl ?_
  replace h := bsome h; obtain ⟨v8, x8, h⟩ := h
  refine wl_cq Tryd.call94 rfl rfl rfl (q_pf (k_hindcastref05_Mix x8) (fun _ _ => trivial)) rfl ?_
  refine wl_pure tt_ok rfl rfl ?_
  refine wl_pure tt_ok rfl rfl ?_
  refine wl_pure tt_ok rfl rfl ?_
  refine wl_nil ?_
  refine wx_then ?_
  refine wc_ret ?_
  simp only [Option.some.injEq, Prod.mk.injEq] at h
  obtain ⟨rfl, rfl⟩ := h
  exact wx_pf tt_ok (.inl rfl) Tryd.results89 (Res.tmp rfl (Res.tmp rfl Res.nil)) rfl

theorem k_hindcastref05_Below {F : Nat} {p0 : Int} {p1 : Int} {r0 : Int} {r1 : Int} (h : m_hindcastref05_Below F p0 p1 = some (r0, r1)) :
    Pf Tryd.prog 79 [.int .u64 p0, .int .i64 p1] (fun w => True) (.tuple #[.int .i64 r0, .int .u64 r1]) := by
  unfold m_hindcastref05_Below at h
  refine pf_of_wc Tryd.func79 rfl Tryd.ntmps79 rfl rfl (fun w0 hR => ?_)
  refine wc_seq ?_
  refine wc_region ?_
  refine wl_pure tt_ok rfl rfl ?_
  refine wl_pure tt_ok rfl rfl ?_
  refine wl_nil ?_
  refine wx_then ?_
  refine wc_seq ?_
  refine wc_seq ?_
  refine wc_region ?_
  refine wl_pure tt_ok rfl rfl ?_
  refine wl_pure (v := .bool (decide (p1 < (1 : Int)))) tt_ok rfl rfl ?_
  refine wl_nil ?_
  refine wx_then ?_
  refine wc_cond rfl (fun hc => ?_) (fun hc => ?_)
  · replace h := ct hc h
    refine wc_seq ?_
    refine wc_region ?_
    refine wl_pure tt_ok rfl rfl ?_
    refine wl_pure tt_ok rfl rfl ?_
    refine wl_pure tt_ok rfl rfl ?_
    refine wl_nil ?_
    refine wx_then ?_
    refine wc_ret ?_
    refine wx_then_ret ?_
    simp only [Option.some.injEq, Prod.mk.injEq] at h
    obtain ⟨rfl, rfl⟩ := h
    exact wx_pf tt_ok (.inl rfl) Tryd.results79 (Res.tmp rfl (Res.tmp rfl Res.nil)) rfl
  replace h := cf hc h
  refine wc_skip ?_
  refine wx_then ?_
  refine wc_seq ?_
  refine wc_seq ?_
  refine wc_region ?_
  refine wl_pure tt_ok rfl rfl ?_
  refine wl_pure (v := .bool (decide ((2147483648 : Int) < p1))) tt_ok rfl rfl ?_
  refine wl_nil ?_
  refine wx_then ?_
  replace h := bsome h; obtain ⟨j14_1, h, hj14⟩ := h
  refine wc_join2 (fun E L => E = [(0, .int .u64 p0), (1, .int .i64 j14_1), (4, .int .i64 (0 : Int)), (5, .int .u64 (0 : Int))] ∧ L = []) ?_ ?_
  · refine wc_cond rfl (fun hc => ?_) (fun hc => ?_)
    · replace h := ct hc h
      refine wc_region ?_
      refine wl_pure tt_ok rfl rfl ?_
      refine wl_nil ?_
      simp only [Option.some.injEq] at h
      obtain rfl := h
      exact wx_join ⟨rfl, rfl⟩ (agree_cons rfl (agree_cons rfl (agree_cons rfl (agree_cons rfl agree_nil)))) (pSub pNil)
    replace h := cf hc h
    refine wc_skip ?_
    simp only [Option.some.injEq] at h
    obtain rfl := h
    exact wx_join ⟨rfl, rfl⟩ (agree_cons rfl (agree_cons rfl (agree_cons rfl (agree_cons rfl agree_nil)))) (pSub pNil)
  rintro _ _ ⟨rfl, rfl⟩
  have h := hj14; clear hj14
  refine wc_seq ?_
  refine wc_region ?_
  refine wl_pure tt_ok rfl rfl ?_
  replace h := bsome h; obtain ⟨⟨v15_0, v15_1⟩, x15, h⟩ := h; try dsimp only at h
  refine wl_cq Tryd.call89 rfl rfl rfl (q_pf (k_hindcastref05_Next x15) (fun _ _ => trivial)) rfl ?_
  refine wl_pure tt_ok rfl rfl ?_
  refine wl_pure tt_ok rfl rfl ?_
  refine wl_pure tt_ok rfl rfl ?_
  refine wl_pure tt_ok rfl rfl ?_
  refine wl_pure tt_ok rfl rfl ?_
  refine wl_nil ?_
  refine wx_then ?_
  refine wc_seq ?_
  refine wc_region ?_
  refine wl_pure tt_ok rfl rfl ?_
  refine wl_pure (v := .int .u64 (IntKind.wrap .u64 (Int.tdiv v15_0 4294967296))) tt_ok rfl rfl ?_
  refine wl_pure tt_ok rfl rfl ?_
  refine wl_nil ?_
  refine wx_then ?_
  refine wc_seq ?_
  refine wc_region ?_
  refine wl_pure tt_ok rfl rfl ?_
  refine wl_pure tt_ok rfl rfl ?_
  refine wl_pure (v := .int .u64 (IntKind.wrap .u64 j14_1)) tt_ok rfl rfl ?_
  refine wl_pure (v := .int .u64 (IntKind.wrap .u64 ((IntKind.wrap .u64 (Int.tdiv v15_0 4294967296)) * (IntKind.wrap .u64 j14_1)))) tt_ok rfl rfl ?_
  refine wl_pure tt_ok rfl rfl ?_
  refine wl_nil ?_
  refine wx_then ?_
  refine wc_seq ?_
  refine wc_region ?_
  refine wl_pure tt_ok rfl rfl ?_
  refine wl_pure (v := .int .u64 (IntKind.wrap .u64 (Int.tdiv (IntKind.wrap .u64 ((IntKind.wrap .u64 (Int.tdiv v15_0 4294967296)) * (IntKind.wrap .u64 j14_1))) 4294967296))) tt_ok rfl rfl ?_
  refine wl_pure (v := .int .i64 (IntKind.wrap .i64 (IntKind.wrap .u64 (Int.tdiv (IntKind.wrap .u64 ((IntKind.wrap .u64 (Int.tdiv v15_0 4294967296)) * (IntKind.wrap .u64 j14_1))) 4294967296)))) tt_ok rfl rfl ?_
  refine wl_pure tt_ok rfl rfl ?_
  refine wl_pure tt_ok rfl rfl ?_
  refine wl_pure tt_ok rfl rfl ?_
  refine wl_nil ?_
  refine wx_then ?_
  refine wc_ret ?_
  simp only [Option.some.injEq, Prod.mk.injEq] at h
  obtain ⟨rfl, rfl⟩ := h
  exact wx_pf tt_ok (.inl rfl) Tryd.results79 (Res.tmp rfl (Res.tmp rfl Res.nil)) rfl

end Go.Proofs.YtfkkpnfbpolppaaDoor
