/-
  Each function computes what its model says. Printed by a program of this claim's own.
-/
import Derived.Test.YtolmilcdhphnhaaTab
import Derived.Test.YtolmilcdhphnhaaMod
namespace Go.Proofs.Ytolmilcdhphnhaa
open Go.Proofs.Ytolmilcdhphnhaa.Eng
set_option linter.unusedVariables false
set_option linter.unusedSimpArgs false
set_option maxHeartbeats 4000000
set_option maxRecDepth 20000

theorem k_input_way {F : Nat} {p0 : Int} {p1 : Int} {p2 : Int} {r0 : Int} (h : m_input_way F p0 p1 p2 = some r0) :
    Pf Try.prog 40 [.int .u8 p0, .int .u8 p1, .int .u8 p2] (fun w => True) (.int .i32 r0) := by
  unfold m_input_way at h
  refine pf_of_wc Try.func40 rfl Try.ntmps40 rfl rfl (fun w0 hR => ?_)
  refine wc_seq ?_
  refine wc_region ?_
  refine wl_pure tt_ok rfl rfl ?_
  refine wl_nil ?_
  refine wx_then ?_
  refine wc_seq ?_
  refine wc_seq ?_
  refine wc_region ?_
  refine wl_pure tt_ok rfl rfl ?_
  refine wl_pure tt_ok rfl rfl ?_
  refine wl_pure tt_ok rfl rfl ?_
  refine wl_pure (v := .int .u8 (bits .or .u8 p1 p2)) tt_ok rfl rfl ?_
  refine wl_pure (v := .int .u8 (bits .and .u8 p0 (bits .or .u8 p1 p2))) tt_ok rfl rfl ?_
  refine wl_nil ?_
  refine wx_then ?_
  refine wc_block ?_
  refine wc_seq ?_
  refine wc_region ?_
  refine wl_pure tt_ok rfl rfl ?_
  refine wl_pure (v := .bool ((bits .and .u8 p0 (bits .or .u8 p1 p2)) == p1)) tt_ok rfl rfl ?_
  refine wl_pure tt_ok rfl rfl ?_
  refine wl_nil ?_
  refine wx_then ?_
  refine wc_cond rfl (fun hc => ?_) (fun hc => ?_)
  · replace h := ct hc h
    refine wc_seq ?_
    refine wc_region ?_
    refine wl_pure tt_ok rfl rfl ?_
    refine wl_nil ?_
    refine wx_then ?_
    refine wc_ret ?_
    refine wx_block_ret ?_
    refine wx_then_ret ?_
    simp only [Option.some.injEq] at h
    obtain rfl := h
    exact wx_pf tt_ok (.inl rfl) Try.results40 (Res.tmp rfl Res.nil) rfl
  replace h := cf hc h
  refine wc_seq ?_
  refine wc_region ?_
  refine wl_pure tt_ok rfl rfl ?_
  refine wl_pure (v := .bool ((bits .and .u8 p0 (bits .or .u8 p1 p2)) == p2)) tt_ok rfl rfl ?_
  refine wl_pure tt_ok rfl rfl ?_
  refine wl_nil ?_
  refine wx_then ?_
  refine wc_cond rfl (fun hc => ?_) (fun hc => ?_)
  · replace h := ct hc h
    refine wc_seq ?_
    refine wc_region ?_
    refine wl_pure tt_ok rfl rfl ?_
    refine wl_nil ?_
    refine wx_then ?_
    refine wc_ret ?_
    refine wx_block_ret ?_
    refine wx_then_ret ?_
    simp only [Option.some.injEq] at h
    obtain rfl := h
    exact wx_pf tt_ok (.inl rfl) Try.results40 (Res.tmp rfl Res.nil) rfl
  replace h := cf hc h
  refine wc_skip ?_
  refine wx_block ?_
  refine wx_then ?_
  refine wc_seq ?_
  refine wc_region ?_
  refine wl_pure tt_ok rfl rfl ?_
  refine wl_nil ?_
  refine wx_then ?_
  refine wc_ret ?_
  simp only [Option.some.injEq] at h
  obtain rfl := h
  exact wx_pf tt_ok (.inl rfl) Try.results40 (Res.tmp rfl Res.nil) rfl

theorem k_input_Dir {F : Nat} {p0 : Int} {r0 : Int} {r1 : Int} (h : m_input_Dir F p0 = some (r0, r1)) :
    Pf Try.prog 16 [.int .u8 p0] (fun w => True) (.tuple #[.int .i32 r0, .int .i32 r1]) := by
  unfold m_input_Dir at h
  refine pf_of_wc Try.func16 rfl Try.ntmps16 rfl rfl (fun w0 hR => ?_)
  refine wc_seq ?_
  refine wc_region ?_
  refine wl_pure tt_ok rfl rfl ?_
  refine wl_pure tt_ok rfl rfl ?_
  refine wl_nil ?_
  refine wx_then ?_
  refine wc_seq ?_
  refine wc_region ?_
  refine wl_pure tt_ok rfl rfl ?_
  replace h := bsome h; obtain ⟨v5, x5, h⟩ := h
  refine wl_cq Try.call40 rfl rfl rfl (q_pf (k_input_way x5) (fun _ _ => trivial)) rfl ?_
  refine wl_pure tt_ok rfl rfl ?_
  replace h := bsome h; obtain ⟨v7, x7, h⟩ := h
  refine wl_cq Try.call40 rfl rfl rfl (q_pf (k_input_way x7) (fun _ _ => trivial)) rfl ?_
  refine wl_pure tt_ok rfl rfl ?_
  refine wl_pure tt_ok rfl rfl ?_
  refine wl_nil ?_
  refine wx_then ?_
  refine wc_ret ?_
  simp only [Option.some.injEq, Prod.mk.injEq] at h
  obtain ⟨rfl, rfl⟩ := h
  exact wx_pf tt_ok (.inl rfl) Try.results16 (Res.tmp rfl (Res.tmp rfl Res.nil)) rfl

theorem k_codec_New {F : Nat} {p0 : (List UInt8)} {r0 : T_codec_Reader} (h : m_codec_New F p0 = some r0) :
    SpD Try.prog 28 [.string ⟨p0.toArray⟩] [] (fun w => True) (fun v D => ∃ (r0b : Nat), v = .pointer (some ⟨r0b, 0, none⟩) ∧ D = fun F => (⟨r0b, [.string ⟨r0.left.s.toArray⟩, .int .i64 r0.left.e], 72, (0, 0)⟩ :: F)) := by
  unfold m_codec_New at h
  refine sp_of_wc Try.func28 rfl Try.ntmps28 rfl rfl (fun w0 hR => ?_)
  refine wc_seq ?_
  refine wc_region ?_
  refine wl_pure tt_ok rfl rfl ?_
  refine wl_nil ?_
  refine wx_then ?_
  refine wc_seq ?_
  refine wc_region ?_
  refine wl_pure tt_ok rfl rfl ?_
  refine wl_pure (v := .agg #[.string ⟨p0.toArray⟩, .int .i64 (0 : Int)]) tt_ok rfl rfl ?_
  refine wl_pure (v := .agg #[.string ⟨p0.toArray⟩, .int .i64 (0 : Int)]) tt_ok rfl rfl ?_
  refine wl_box rfl rfl rfl (fun b6 => ?_)
  refine wl_pure tt_ok rfl rfl ?_
  refine wl_nil ?_
  refine wx_then ?_
  refine wc_ret ?_
  simp only [Option.some.injEq] at h
  obtain rfl := h
  exact wx_spD tt_ok (.inl rfl) Try.results28 (Res.tmp rfl Res.nil) ⟨b6, rfl, rfl⟩ (fun F => by simp) (pSub (pCons Sel.hc pNil))

theorem k_codec_left_fail {F : Nat} {p0 : T_codec_left} {p0b p0t : Nat} {p1 : Int} {r0 : T_codec_left} (h : m_codec_left_fail F p0 p1 = some r0) :
    SpD Try.prog 45 [.pointer (some ⟨p0b, 0, none⟩), .int .i64 p1] (⟨p0b, [.string ⟨p0.s.toArray⟩, .int .i64 p0.e], p0t, (0, 0)⟩ :: []) (fun w => True) (fun v D => v = .tuple #[] ∧ D = fun F => (⟨p0b, [.string ⟨r0.s.toArray⟩, .int .i64 r0.e], p0t, (0, 0)⟩ :: F)) := by
  unfold m_codec_left_fail at h
  refine sp_of_wc Try.func45 rfl Try.ntmps45 rfl rfl (fun w0 hR => ?_)
  refine wc_seq ?_
  refine wc_region ?_
  refine wl_pure tt_ok rfl rfl ?_
  refine wl_pure tt_ok rfl rfl ?_
  refine wl_pure (v := .pointer (some ⟨p0b, 1, none⟩)) tt_ok rfl rfl ?_
  refine wl_val (v := .int .i64 p0.e) (val_load tt_ok rfl (List.Mem.head _) rfl) rfl ?_
  refine wl_pure (v := .bool (p0.e == (0 : Int))) tt_ok rfl rfl ?_
  refine wl_nil ?_
  refine wx_then ?_
  refine wc_cond rfl (fun hc => ?_) (fun hc => ?_)
  · replace h := ct hc h
    refine wc_region ?_
    refine wl_pure tt_ok rfl rfl ?_
    refine wl_pure tt_ok rfl rfl ?_
    refine wl_pure tt_ok rfl rfl ?_
    refine wl_pure tt_ok rfl rfl ?_
    refine wl_pure (v := .pointer (some ⟨p0b, 0, none⟩)) tt_ok rfl rfl ?_
    apply wl_store tt_ok; rfl; exact Upd.here; rfl; rfl; rfl; rfl; rfl; rfl
    refine wl_pure tt_ok rfl rfl ?_
    refine wl_pure (v := .pointer (some ⟨p0b, 1, none⟩)) tt_ok rfl rfl ?_
    apply wl_store tt_ok; rfl; exact Upd.here; rfl; rfl; rfl; rfl; rfl; rfl
    refine wl_nil ?_
    simp only [Option.some.injEq] at h
    obtain rfl := h
    exact wx_spD tt_ok (.inr rfl) Try.results45 Res.nil ⟨rfl, rfl⟩ (fun F => by simp) (pSub (pCons Sel.hc pNil))
  replace h := cf hc h
  refine wc_skip ?_
  simp only [Option.some.injEq] at h
  obtain rfl := h
  exact wx_spD tt_ok (.inr rfl) Try.results45 Res.nil ⟨rfl, rfl⟩ (fun F => by simp) (pSub (pCons Sel.hc pNil))

theorem k_codec_left_take {F : Nat} {p0 : T_codec_left} {p0b p0t : Nat} {p1 : Int} {r0 : T_codec_left} {r1 : (List UInt8)} {r2 : Bool} (h : m_codec_left_take F p0 p1 = some (r0, r1, r2)) :
    SpD Try.prog 44 [.pointer (some ⟨p0b, 0, none⟩), .int .u64 p1] (⟨p0b, [.string ⟨p0.s.toArray⟩, .int .i64 p0.e], p0t, (0, 0)⟩ :: []) (fun w => True) (fun v D => v = .tuple #[.string ⟨r1.toArray⟩, .bool r2] ∧ D = fun F => (⟨p0b, [.string ⟨r0.s.toArray⟩, .int .i64 r0.e], p0t, (0, 0)⟩ :: F)) := by
  unfold m_codec_left_take at h
  refine sp_of_wc Try.func44 rfl Try.ntmps44 rfl rfl (fun w0 hR => ?_)
  refine wc_seq ?_
  refine wc_region ?_
  refine wl_pure tt_ok rfl rfl ?_
  refine wl_pure tt_ok rfl rfl ?_
  refine wl_nil ?_
  refine wx_then ?_
  refine wc_seq ?_
  refine wc_seq ?_
  refine wc_region ?_
  refine wl_pure tt_ok rfl rfl ?_
  refine wl_pure tt_ok rfl rfl ?_
  refine wl_pure (v := .pointer (some ⟨p0b, 1, none⟩)) tt_ok rfl rfl ?_
  refine wl_val (v := .int .i64 p0.e) (val_load tt_ok rfl (List.Mem.head _) rfl) rfl ?_
  refine wl_pure (v := .bool (p0.e != (0 : Int))) tt_ok rfl rfl ?_
  refine wl_nil ?_
  refine wx_then ?_
  refine wc_cond rfl (fun hc => ?_) (fun hc => ?_)
  · replace h := ct hc h
    refine wc_seq ?_
    refine wc_region ?_
    refine wl_pure tt_ok rfl rfl ?_
    refine wl_pure tt_ok rfl rfl ?_
    refine wl_nil ?_
    refine wx_then ?_
    refine wc_ret ?_
    refine wx_then_ret ?_
    simp only [Option.some.injEq, Prod.mk.injEq] at h
    obtain ⟨rfl, rfl, rfl⟩ := h
    exact wx_spD tt_ok (.inl rfl) Try.results44 (Res.tmp rfl (Res.tmp rfl Res.nil)) ⟨rfl, rfl⟩ (fun F => by simp) (pSub (pCons Sel.hc pNil))
  replace h := cf hc h
  refine wc_skip ?_
  refine wx_then ?_
  refine wc_seq ?_
  refine wc_seq ?_
  refine wc_region ?_
  refine wl_pure tt_ok rfl rfl ?_
  refine wl_pure tt_ok rfl rfl ?_
  refine wl_pure tt_ok rfl rfl ?_
  refine wl_pure (v := .pointer (some ⟨p0b, 0, none⟩)) tt_ok rfl rfl ?_
  refine wl_val (v := .string ⟨p0.s.toArray⟩) (val_load tt_ok rfl (List.Mem.head _) rfl) rfl ?_
  refine wl_pure (v := .int .i64 (p0.s.length : Int)) tt_ok rfl rfl ?_
  refine wl_pure (v := .int .u64 (IntKind.wrap .u64 (p0.s.length : Int))) tt_ok rfl rfl ?_
  refine wl_pure (v := .bool (decide ((IntKind.wrap .u64 (p0.s.length : Int)) < p1))) tt_ok rfl rfl ?_
  refine wl_nil ?_
  refine wx_then ?_
  refine wc_cond rfl (fun hc => ?_) (fun hc => ?_)
  · replace h := ct hc h
    refine wc_seq ?_
    refine wc_region ?_
    refine wl_pure tt_ok rfl rfl ?_
    replace h := bsome h; obtain ⟨o21_0, x21, h⟩ := h
    refine wl_cs Try.call45 rfl rfl rfl (s_sp (k_codec_left_fail x21) (pCons Sel.hc pNil) (fun _ _ => trivial)) rfl ?_
    rintro _ _ ⟨_, ⟨rfl, rfl⟩, rfl⟩
    refine wl_nil ?_
    refine wx_then ?_
    refine wc_seq ?_
    refine wc_region ?_
    refine wl_pure tt_ok rfl rfl ?_
    refine wl_pure tt_ok rfl rfl ?_
    refine wl_nil ?_
    refine wx_then ?_
    refine wc_ret ?_
    refine wx_then_ret ?_
    simp only [Option.some.injEq, Prod.mk.injEq] at h
    obtain ⟨rfl, rfl, rfl⟩ := h
    exact wx_spD tt_ok (.inl rfl) Try.results44 (Res.tmp rfl (Res.tmp rfl Res.nil)) ⟨rfl, rfl⟩ (fun F => by simp) (pSub (pCons Sel.hc pNil))
  replace h := cf hc h
  refine wc_skip ?_
  refine wx_then ?_
  refine wc_seq ?_
  refine wc_region ?_
  refine wl_pure tt_ok rfl rfl ?_
  refine wl_pure tt_ok rfl rfl ?_
  refine wl_pure (v := .pointer (some ⟨p0b, 0, none⟩)) tt_ok rfl rfl ?_
  refine wl_val (v := .string ⟨p0.s.toArray⟩) (val_load tt_ok rfl (List.Mem.head _) rfl) rfl ?_
  refine wl_pure tt_ok rfl rfl ?_
  replace h := bsome h; obtain ⟨v27, x27, h⟩ := h
  refine wl_val (v := .string ⟨v27.toArray⟩) (val_ss tt_ok rfl rfl (.inl ⟨rfl, rfl⟩) (.inr ⟨_, _, rfl, rfl⟩) x27) rfl ?_
  refine wl_pure tt_ok rfl rfl ?_
  refine wl_nil ?_
  refine wx_then ?_
  refine wc_seq ?_
  refine wc_region ?_
  refine wl_pure tt_ok rfl rfl ?_
  refine wl_pure tt_ok rfl rfl ?_
  refine wl_pure tt_ok rfl rfl ?_
  refine wl_pure (v := .pointer (some ⟨p0b, 0, none⟩)) tt_ok rfl rfl ?_
  refine wl_val (v := .string ⟨p0.s.toArray⟩) (val_load tt_ok rfl (List.Mem.head _) rfl) rfl ?_
  refine wl_pure tt_ok rfl rfl ?_
  replace h := bsome h; obtain ⟨v34, x34, h⟩ := h
  refine wl_val (v := .string ⟨v34.toArray⟩) (val_ss tt_ok rfl rfl (.inr ⟨_, _, rfl, rfl⟩) (.inl ⟨rfl, rfl⟩) x34) rfl ?_
  refine wl_pure tt_ok rfl rfl ?_
  refine wl_pure (v := .pointer (some ⟨p0b, 0, none⟩)) tt_ok rfl rfl ?_
  apply wl_store tt_ok; rfl; exact Upd.here; rfl; rfl; rfl; rfl; rfl; rfl
  refine wl_nil ?_
  refine wx_then ?_
  refine wc_seq ?_
  refine wc_region ?_
  refine wl_pure tt_ok rfl rfl ?_
  refine wl_pure tt_ok rfl rfl ?_
  refine wl_pure tt_ok rfl rfl ?_
  refine wl_nil ?_
  refine wx_then ?_
  refine wc_ret ?_
  simp only [Option.some.injEq, Prod.mk.injEq] at h
  obtain ⟨rfl, rfl, rfl⟩ := h
  exact wx_spD tt_ok (.inl rfl) Try.results44 (Res.tmp rfl (Res.tmp rfl Res.nil)) ⟨rfl, rfl⟩ (fun F => by simp) (pSub (pCons Sel.hc pNil))

theorem k_codec_Reader_Var {F : Nat} {p0 : T_codec_Reader} {p0b p0t : Nat} {r0 : T_codec_Reader} {r1 : Int} (h : m_codec_Reader_Var F p0 = some (r0, r1)) :
    SpD Try.prog 29 [.pointer (some ⟨p0b, 0, none⟩)] (⟨p0b, [.string ⟨p0.left.s.toArray⟩, .int .i64 p0.left.e], p0t, (0, 0)⟩ :: []) (fun w => True) (fun v D => v = .int .u64 r1 ∧ D = fun F => (⟨p0b, [.string ⟨r0.left.s.toArray⟩, .int .i64 r0.left.e], p0t, (0, 0)⟩ :: F)) := by
  unfold m_codec_Reader_Var at h
  refine sp_of_wc Try.func29 rfl Try.ntmps29 rfl rfl (fun w0 hR => ?_)
  refine wc_seq ?_
  refine wc_region ?_
  refine wl_pure tt_ok rfl rfl ?_
  refine wl_nil ?_
  refine wx_then ?_
  refine wc_seq ?_
  refine wc_seq ?_
  refine wc_region ?_
  refine wl_pure tt_ok rfl rfl ?_
  refine wl_pure (v := .bool false) tt_ok rfl rfl ?_
  refine wl_nil ?_
  refine wx_then ?_
  refine wc_cond_false rfl ?_
  refine wc_skip ?_
  refine wx_then ?_
  refine wc_seq ?_
  refine wc_seq ?_
  refine wc_region ?_
  refine wl_pure tt_ok rfl rfl ?_
  refine wl_nil ?_
  refine wx_then ?_
  refine wc_block ?_
  replace h := bsome h; obtain ⟨o15, h, hl15⟩ := h
  refine wc_loop (fun m E L => ∃ (j15_2 : Int) (j15_9 : Int) (j15_p0 : T_codec_Reader), m_codec_Reader_Var_L14 F m j15_2 j15_9 j15_p0 = some o15 ∧ E = [(0, .pointer (some ⟨p0b, 0, none⟩)), (2, .int .u64 j15_2), (9, .int .i64 j15_9)] ∧ L = (⟨p0b, [.string ⟨j15_p0.left.s.toArray⟩, .int .i64 j15_p0.left.e], p0t, (0, 0)⟩ :: [])) F ⟨(0 : Int), (0 : Int), p0, h, rfl, rfl⟩ (agree_cons rfl (agree_cons rfl (agree_cons rfl agree_nil))) (pSub (pCons Sel.hc pNil)) ?_
  clear h
  rintro m15 _ _ ⟨j15_2, j15_9, j15_p0, h, rfl, rfl⟩
  rcases m15 with _ | m15
  · rw [m_codec_Reader_Var_L14.eq_1] at h; cases h
  rw [m_codec_Reader_Var_L14.eq_2] at h
  refine wc_seq ?_
  refine wc_region ?_
  refine wl_pure (v := .bool (decide (j15_9 < (10 : Int)))) tt_ok rfl rfl ?_
  refine wl_nil ?_
  refine wx_then ?_
  refine wc_seq ?_
  refine wc_cond rfl (fun hc => ?_) (fun hc => ?_)
  · replace h := ct hc h
    refine wc_skip ?_
    refine wx_then ?_
    refine wc_seq ?_
    refine wc_block ?_
    refine wc_seq ?_
    refine wc_region ?_
    refine wl_pure tt_ok rfl rfl ?_
    refine wl_pure tt_ok rfl rfl ?_
    refine wl_nil ?_
    refine wx_then ?_
    refine wc_seq ?_
    refine wc_region ?_
    refine wl_pure tt_ok rfl rfl ?_
    refine wl_pure tt_ok rfl rfl ?_
    refine wl_pure (v := .pointer (some ⟨p0b, 0, none⟩)) tt_ok rfl rfl ?_
    replace h := bsome h; obtain ⟨⟨o16_0, v16_0, v16_1⟩, x16, h⟩ := h; try dsimp only at h
    refine wl_cs Try.call44 rfl rfl rfl (s_sp (k_codec_left_take x16) (pCons Sel.hc pNil) (fun _ _ => trivial)) rfl ?_
    rintro _ _ ⟨_, ⟨rfl, rfl⟩, rfl⟩
    refine wl_pure tt_ok rfl rfl ?_
    refine wl_pure tt_ok rfl rfl ?_
    refine wl_pure tt_ok rfl rfl ?_
    refine wl_pure tt_ok rfl rfl ?_
    refine wl_pure tt_ok rfl rfl ?_
    refine wl_nil ?_
    refine wx_then ?_
    refine wc_seq ?_
    refine wc_seq ?_
    refine wc_region ?_
    refine wl_pure tt_ok rfl rfl ?_
    refine wl_pure (v := .bool (!v16_1)) tt_ok rfl rfl ?_
    refine wl_nil ?_
    refine wx_then ?_
    refine wc_cond rfl (fun hc => ?_) (fun hc => ?_)
    · replace h := ct hc h
      refine wc_seq ?_
      refine wc_region ?_
      refine wl_pure tt_ok rfl rfl ?_
      refine wl_nil ?_
      refine wx_then ?_
      refine wc_ret ?_
      refine wx_then_ret ?_
      refine wx_block_ret ?_
      refine wx_then_ret ?_
      obtain rfl := Option.some.inj h
      have h := hl15; clear hl15; try dsimp only [orE_l, orE_r] at h
      refine wx_then_ret ?_
      refine wx_block_ret ?_
      refine wx_then_ret ?_
      simp only [Option.some.injEq, Prod.mk.injEq] at h
      obtain ⟨rfl, rfl⟩ := h
      exact wx_spD tt_ok (.inl rfl) Try.results29 (Res.tmp rfl Res.nil) ⟨rfl, rfl⟩ (fun F => by simp) (pSub (pCons Sel.hc pNil))
    replace h := cf hc h
    refine wc_skip ?_
    refine wx_then ?_
    refine wc_seq ?_
    refine wc_region ?_
    refine wl_pure tt_ok rfl rfl ?_
    replace h := bsome h; obtain ⟨v22, x22, h⟩ := h
    refine wl_val (v := .int .u8 (v22.toNat : Int)) (val_sx tt_ok rfl rfl rfl x22) rfl ?_
    refine wl_pure tt_ok rfl rfl ?_
    refine wl_nil ?_
    refine wx_then ?_
    refine wc_seq ?_
    refine wc_block ?_
    refine wc_seq ?_
    refine wc_region ?_
    refine wl_pure tt_ok rfl rfl ?_
    refine wl_pure (v := .bool (j15_9 == (9 : Int))) tt_ok rfl rfl ?_
    refine wl_pure tt_ok rfl rfl ?_
    replace h := bsome h; obtain ⟨v29, h, hg29⟩ := h
    refine wl_split (t := 26) rfl (fun hc => ?_) (fun hc => ?_)
    · replace h := ct hc h
      refine wl_run rfl ?_
      refine wl_pure tt_ok rfl rfl ?_
      refine wl_run rfl ?_
      refine wl_pure (v := .bool (decide ((1 : Int) < (v22.toNat : Int)))) tt_ok rfl rfl ?_
      simp only [Option.some.injEq, Prod.mk.injEq] at h
      obtain rfl := h
      have h := hg29; clear hg29
      refine wl_pure (v := .bool (decide ((1 : Int) < (v22.toNat : Int)))) tt_ok rfl rfl ?_
      refine wl_pure tt_ok rfl rfl ?_
      refine wl_nil ?_
      refine wx_then ?_
      refine wc_cond rfl (fun hc => ?_) (fun hc => ?_)
      · replace h := ct hc h
        refine wc_seq ?_
        refine wc_region ?_
        refine wl_pure tt_ok rfl rfl ?_
        refine wl_pure tt_ok rfl rfl ?_
        refine wl_pure (v := .pointer (some ⟨p0b, 0, none⟩)) tt_ok rfl rfl ?_
        replace h := bsome h; obtain ⟨o33_0, x33, h⟩ := h
        refine wl_cs Try.call45 rfl rfl rfl (s_sp (k_codec_left_fail x33) (pCons Sel.hc pNil) (fun _ _ => trivial)) rfl ?_
        rintro _ _ ⟨_, ⟨rfl, rfl⟩, rfl⟩
        refine wl_nil ?_
        refine wx_then ?_
        refine wc_seq ?_
        refine wc_region ?_
        refine wl_pure tt_ok rfl rfl ?_
        refine wl_nil ?_
        refine wx_then ?_
        refine wc_ret ?_
        refine wx_block_ret ?_
        refine wx_then_ret ?_
        refine wx_block_ret ?_
        refine wx_then_ret ?_
        obtain rfl := Option.some.inj h
        have h := hl15; clear hl15; try dsimp only [orE_l, orE_r] at h
        refine wx_then_ret ?_
        refine wx_block_ret ?_
        refine wx_then_ret ?_
        simp only [Option.some.injEq, Prod.mk.injEq] at h
        obtain ⟨rfl, rfl⟩ := h
        exact wx_spD tt_ok (.inl rfl) Try.results29 (Res.tmp rfl Res.nil) ⟨rfl, rfl⟩ (fun F => by simp) (pSub (pCons Sel.hc pNil))
      replace h := cf hc h
      refine wc_seq ?_
      refine wc_region ?_
      refine wl_pure tt_ok rfl rfl ?_
      refine wl_pure (v := .bool ((v22.toNat : Int) == (0 : Int))) tt_ok rfl rfl ?_
      refine wl_pure tt_ok rfl rfl ?_
      replace h := bsome h; obtain ⟨v40, h, hg40⟩ := h
      refine wl_split (t := 37) rfl (fun hc => ?_) (fun hc => ?_)
      · replace h := ct hc h
        refine wl_run rfl ?_
        refine wl_pure tt_ok rfl rfl ?_
        refine wl_run rfl ?_
        refine wl_pure (v := .bool (decide ((0 : Int) < j15_9))) tt_ok rfl rfl ?_
        simp only [Option.some.injEq, Prod.mk.injEq] at h
        obtain rfl := h
        have h := hg40; clear hg40
        refine wl_pure (v := .bool (decide ((0 : Int) < j15_9))) tt_ok rfl rfl ?_
        refine wl_pure tt_ok rfl rfl ?_
        refine wl_nil ?_
        refine wx_then ?_
        refine wc_cond rfl (fun hc => ?_) (fun hc => ?_)
        · replace h := ct hc h
          refine wc_seq ?_
          refine wc_region ?_
          refine wl_pure tt_ok rfl rfl ?_
          refine wl_pure tt_ok rfl rfl ?_
          refine wl_pure (v := .pointer (some ⟨p0b, 0, none⟩)) tt_ok rfl rfl ?_
          replace h := bsome h; obtain ⟨o44_0, x44, h⟩ := h
          refine wl_cs Try.call45 rfl rfl rfl (s_sp (k_codec_left_fail x44) (pCons Sel.hc pNil) (fun _ _ => trivial)) rfl ?_
          rintro _ _ ⟨_, ⟨rfl, rfl⟩, rfl⟩
          refine wl_nil ?_
          refine wx_then ?_
          refine wc_seq ?_
          refine wc_region ?_
          refine wl_pure tt_ok rfl rfl ?_
          refine wl_nil ?_
          refine wx_then ?_
          refine wc_ret ?_
          refine wx_block_ret ?_
          refine wx_then_ret ?_
          refine wx_block_ret ?_
          refine wx_then_ret ?_
          obtain rfl := Option.some.inj h
          have h := hl15; clear hl15; try dsimp only [orE_l, orE_r] at h
          refine wx_then_ret ?_
          refine wx_block_ret ?_
          refine wx_then_ret ?_
          simp only [Option.some.injEq, Prod.mk.injEq] at h
          obtain ⟨rfl, rfl⟩ := h
          exact wx_spD tt_ok (.inl rfl) Try.results29 (Res.tmp rfl Res.nil) ⟨rfl, rfl⟩ (fun F => by simp) (pSub (pCons Sel.hc pNil))
        replace h := cf hc h
        refine wc_skip ?_
        refine wx_block ?_
        refine wx_then ?_
        refine wc_seq ?_
        refine wc_region ?_
        refine wl_pure tt_ok rfl rfl ?_
        refine wl_pure tt_ok rfl rfl ?_
        refine wl_pure (v := .int .u8 (bits .and .u8 (v22.toNat : Int) (127 : Int))) tt_ok rfl rfl ?_
        refine wl_pure (v := .int .u64 (IntKind.wrap .u64 (bits .and .u8 (v22.toNat : Int) (127 : Int)))) tt_ok rfl rfl ?_
        refine wl_pure tt_ok rfl rfl ?_
        refine wl_pure (v := .int .i64 (IntKind.wrap .i64 ((7 : Int) * j15_9))) tt_ok rfl rfl ?_
        replace h := bsome h; obtain ⟨v51, x51, h⟩ := h
        refine wl_val (v := .int .u64 v51) (val_shl rfl rfl x51) rfl ?_
        refine wl_pure (v := .int .u64 (bits .or .u64 j15_2 v51)) tt_ok rfl rfl ?_
        refine wl_pure tt_ok rfl rfl ?_
        refine wl_nil ?_
        refine wx_then ?_
        refine wc_seq ?_
        refine wc_region ?_
        refine wl_pure tt_ok rfl rfl ?_
        refine wl_pure (v := .bool (decide ((v22.toNat : Int) < (128 : Int)))) tt_ok rfl rfl ?_
        refine wl_nil ?_
        refine wx_then ?_
        refine wc_cond rfl (fun hc => ?_) (fun hc => ?_)
        · replace h := ct hc h
          refine wc_seq ?_
          refine wc_region ?_
          refine wl_pure tt_ok rfl rfl ?_
          refine wl_pure tt_ok rfl rfl ?_
          refine wl_nil ?_
          refine wx_then ?_
          refine wc_ret ?_
          refine wx_block_ret ?_
          refine wx_then_ret ?_
          obtain rfl := Option.some.inj h
          have h := hl15; clear hl15; try dsimp only [orE_l, orE_r] at h
          refine wx_then_ret ?_
          refine wx_block_ret ?_
          refine wx_then_ret ?_
          simp only [Option.some.injEq, Prod.mk.injEq] at h
          obtain ⟨rfl, rfl⟩ := h
          exact wx_spD tt_ok (.inl rfl) Try.results29 (Res.tmp rfl Res.nil) ⟨rfl, rfl⟩ (fun F => by simp) (pSub (pCons Sel.hc pNil))
        replace h := cf hc h
        refine wc_skip ?_
        refine wx_block ?_
        refine wx_then ?_
        refine wc_region ?_
        refine wl_pure (v := .int .i64 (IntKind.wrap .i64 (j15_9 + (1 : Int)))) tt_ok rfl rfl ?_
        refine wl_pure tt_ok rfl rfl ?_
        refine wl_nil ?_
        exact wx_round m15 (Nat.lt_succ_self m15) ⟨(bits .or .u64 j15_2 v51), (IntKind.wrap .i64 (j15_9 + (1 : Int))), (T_codec_Reader.mk o16_0), h, rfl, rfl⟩ (agree_cons rfl (agree_cons rfl (agree_cons rfl agree_nil))) (pSub (pCons Sel.hc pNil))
      replace h := cf hc h
      refine wl_skip rfl rfl ?_
      refine wl_skip rfl rfl ?_
      simp only [Option.some.injEq, Prod.mk.injEq] at h
      obtain rfl := h
      have h := hg40; clear hg40
      refine wl_pure (v := .bool false) tt_ok rfl rfl ?_
      refine wl_pure tt_ok rfl rfl ?_
      refine wl_nil ?_
      refine wx_then ?_
      replace h := cf rfl h
      refine wc_cond_false rfl ?_
      refine wc_skip ?_
      refine wx_block ?_
      refine wx_then ?_
      refine wc_seq ?_
      refine wc_region ?_
      refine wl_pure tt_ok rfl rfl ?_
      refine wl_pure tt_ok rfl rfl ?_
      refine wl_pure (v := .int .u8 (bits .and .u8 (v22.toNat : Int) (127 : Int))) tt_ok rfl rfl ?_
      refine wl_pure (v := .int .u64 (IntKind.wrap .u64 (bits .and .u8 (v22.toNat : Int) (127 : Int)))) tt_ok rfl rfl ?_
      refine wl_pure tt_ok rfl rfl ?_
      refine wl_pure (v := .int .i64 (IntKind.wrap .i64 ((7 : Int) * j15_9))) tt_ok rfl rfl ?_
      replace h := bsome h; obtain ⟨v51, x51, h⟩ := h
      refine wl_val (v := .int .u64 v51) (val_shl rfl rfl x51) rfl ?_
      refine wl_pure (v := .int .u64 (bits .or .u64 j15_2 v51)) tt_ok rfl rfl ?_
      refine wl_pure tt_ok rfl rfl ?_
      refine wl_nil ?_
      refine wx_then ?_
      refine wc_seq ?_
      refine wc_region ?_
      refine wl_pure tt_ok rfl rfl ?_
      refine wl_pure (v := .bool (decide ((v22.toNat : Int) < (128 : Int)))) tt_ok rfl rfl ?_
      refine wl_nil ?_
      refine wx_then ?_
      refine wc_cond rfl (fun hc => ?_) (fun hc => ?_)
      · replace h := ct hc h
        refine wc_seq ?_
        refine wc_region ?_
        refine wl_pure tt_ok rfl rfl ?_
        refine wl_pure tt_ok rfl rfl ?_
        refine wl_nil ?_
        refine wx_then ?_
        refine wc_ret ?_
        refine wx_block_ret ?_
        refine wx_then_ret ?_
        obtain rfl := Option.some.inj h
        have h := hl15; clear hl15; try dsimp only [orE_l, orE_r] at h
        refine wx_then_ret ?_
        refine wx_block_ret ?_
        refine wx_then_ret ?_
        simp only [Option.some.injEq, Prod.mk.injEq] at h
        obtain ⟨rfl, rfl⟩ := h
        exact wx_spD tt_ok (.inl rfl) Try.results29 (Res.tmp rfl Res.nil) ⟨rfl, rfl⟩ (fun F => by simp) (pSub (pCons Sel.hc pNil))
      replace h := cf hc h
      refine wc_skip ?_
      refine wx_block ?_
      refine wx_then ?_
      refine wc_region ?_
      refine wl_pure (v := .int .i64 (IntKind.wrap .i64 (j15_9 + (1 : Int)))) tt_ok rfl rfl ?_
      refine wl_pure tt_ok rfl rfl ?_
      refine wl_nil ?_
      exact wx_round m15 (Nat.lt_succ_self m15) ⟨(bits .or .u64 j15_2 v51), (IntKind.wrap .i64 (j15_9 + (1 : Int))), (T_codec_Reader.mk o16_0), h, rfl, rfl⟩ (agree_cons rfl (agree_cons rfl (agree_cons rfl agree_nil))) (pSub (pCons Sel.hc pNil))
    replace h := cf hc h
    refine wl_skip rfl rfl ?_
    refine wl_skip rfl rfl ?_
    simp only [Option.some.injEq, Prod.mk.injEq] at h
    obtain rfl := h
    have h := hg29; clear hg29
    refine wl_pure (v := .bool false) tt_ok rfl rfl ?_
    refine wl_pure tt_ok rfl rfl ?_
    refine wl_nil ?_
    refine wx_then ?_
    replace h := cf rfl h
    refine wc_cond_false rfl ?_
    refine wc_seq ?_
    refine wc_region ?_
    refine wl_pure tt_ok rfl rfl ?_
    refine wl_pure (v := .bool ((v22.toNat : Int) == (0 : Int))) tt_ok rfl rfl ?_
    refine wl_pure tt_ok rfl rfl ?_
    replace h := bsome h; obtain ⟨v40, h, hg40⟩ := h
    refine wl_split (t := 37) rfl (fun hc => ?_) (fun hc => ?_)
    · replace h := ct hc h
      refine wl_run rfl ?_
      refine wl_pure tt_ok rfl rfl ?_
      refine wl_run rfl ?_
      refine wl_pure (v := .bool (decide ((0 : Int) < j15_9))) tt_ok rfl rfl ?_
      simp only [Option.some.injEq, Prod.mk.injEq] at h
      obtain rfl := h
      have h := hg40; clear hg40
      refine wl_pure (v := .bool (decide ((0 : Int) < j15_9))) tt_ok rfl rfl ?_
      refine wl_pure tt_ok rfl rfl ?_
      refine wl_nil ?_
      refine wx_then ?_
      refine wc_cond rfl (fun hc => ?_) (fun hc => ?_)
      · replace h := ct hc h
        refine wc_seq ?_
        refine wc_region ?_
        refine wl_pure tt_ok rfl rfl ?_
        refine wl_pure tt_ok rfl rfl ?_
        refine wl_pure (v := .pointer (some ⟨p0b, 0, none⟩)) tt_ok rfl rfl ?_
        replace h := bsome h; obtain ⟨o44_0, x44, h⟩ := h
        refine wl_cs Try.call45 rfl rfl rfl (s_sp (k_codec_left_fail x44) (pCons Sel.hc pNil) (fun _ _ => trivial)) rfl ?_
        rintro _ _ ⟨_, ⟨rfl, rfl⟩, rfl⟩
        refine wl_nil ?_
        refine wx_then ?_
        refine wc_seq ?_
        refine wc_region ?_
        refine wl_pure tt_ok rfl rfl ?_
        refine wl_nil ?_
        refine wx_then ?_
        refine wc_ret ?_
        refine wx_block_ret ?_
        refine wx_then_ret ?_
        refine wx_block_ret ?_
        refine wx_then_ret ?_
        obtain rfl := Option.some.inj h
        have h := hl15; clear hl15; try dsimp only [orE_l, orE_r] at h
        refine wx_then_ret ?_
        refine wx_block_ret ?_
        refine wx_then_ret ?_
        simp only [Option.some.injEq, Prod.mk.injEq] at h
        obtain ⟨rfl, rfl⟩ := h
        exact wx_spD tt_ok (.inl rfl) Try.results29 (Res.tmp rfl Res.nil) ⟨rfl, rfl⟩ (fun F => by simp) (pSub (pCons Sel.hc pNil))
      replace h := cf hc h
      refine wc_skip ?_
      refine wx_block ?_
      refine wx_then ?_
      refine wc_seq ?_
      refine wc_region ?_
      refine wl_pure tt_ok rfl rfl ?_
      refine wl_pure tt_ok rfl rfl ?_
      refine wl_pure (v := .int .u8 (bits .and .u8 (v22.toNat : Int) (127 : Int))) tt_ok rfl rfl ?_
      refine wl_pure (v := .int .u64 (IntKind.wrap .u64 (bits .and .u8 (v22.toNat : Int) (127 : Int)))) tt_ok rfl rfl ?_
      refine wl_pure tt_ok rfl rfl ?_
      refine wl_pure (v := .int .i64 (IntKind.wrap .i64 ((7 : Int) * j15_9))) tt_ok rfl rfl ?_
      replace h := bsome h; obtain ⟨v51, x51, h⟩ := h
      refine wl_val (v := .int .u64 v51) (val_shl rfl rfl x51) rfl ?_
      refine wl_pure (v := .int .u64 (bits .or .u64 j15_2 v51)) tt_ok rfl rfl ?_
      refine wl_pure tt_ok rfl rfl ?_
      refine wl_nil ?_
      refine wx_then ?_
      refine wc_seq ?_
      refine wc_region ?_
      refine wl_pure tt_ok rfl rfl ?_
      refine wl_pure (v := .bool (decide ((v22.toNat : Int) < (128 : Int)))) tt_ok rfl rfl ?_
      refine wl_nil ?_
      refine wx_then ?_
      refine wc_cond rfl (fun hc => ?_) (fun hc => ?_)
      · replace h := ct hc h
        refine wc_seq ?_
        refine wc_region ?_
        refine wl_pure tt_ok rfl rfl ?_
        refine wl_pure tt_ok rfl rfl ?_
        refine wl_nil ?_
        refine wx_then ?_
        refine wc_ret ?_
        refine wx_block_ret ?_
        refine wx_then_ret ?_
        obtain rfl := Option.some.inj h
        have h := hl15; clear hl15; try dsimp only [orE_l, orE_r] at h
        refine wx_then_ret ?_
        refine wx_block_ret ?_
        refine wx_then_ret ?_
        simp only [Option.some.injEq, Prod.mk.injEq] at h
        obtain ⟨rfl, rfl⟩ := h
        exact wx_spD tt_ok (.inl rfl) Try.results29 (Res.tmp rfl Res.nil) ⟨rfl, rfl⟩ (fun F => by simp) (pSub (pCons Sel.hc pNil))
      replace h := cf hc h
      refine wc_skip ?_
      refine wx_block ?_
      refine wx_then ?_
      refine wc_region ?_
      refine wl_pure (v := .int .i64 (IntKind.wrap .i64 (j15_9 + (1 : Int)))) tt_ok rfl rfl ?_
      refine wl_pure tt_ok rfl rfl ?_
      refine wl_nil ?_
      exact wx_round m15 (Nat.lt_succ_self m15) ⟨(bits .or .u64 j15_2 v51), (IntKind.wrap .i64 (j15_9 + (1 : Int))), (T_codec_Reader.mk o16_0), h, rfl, rfl⟩ (agree_cons rfl (agree_cons rfl (agree_cons rfl agree_nil))) (pSub (pCons Sel.hc pNil))
    replace h := cf hc h
    refine wl_skip rfl rfl ?_
    refine wl_skip rfl rfl ?_
    simp only [Option.some.injEq, Prod.mk.injEq] at h
    obtain rfl := h
    have h := hg40; clear hg40
    refine wl_pure (v := .bool false) tt_ok rfl rfl ?_
    refine wl_pure tt_ok rfl rfl ?_
    refine wl_nil ?_
    refine wx_then ?_
    replace h := cf rfl h
    refine wc_cond_false rfl ?_
    refine wc_skip ?_
    refine wx_block ?_
    refine wx_then ?_
    refine wc_seq ?_
    refine wc_region ?_
    refine wl_pure tt_ok rfl rfl ?_
    refine wl_pure tt_ok rfl rfl ?_
    refine wl_pure (v := .int .u8 (bits .and .u8 (v22.toNat : Int) (127 : Int))) tt_ok rfl rfl ?_
    refine wl_pure (v := .int .u64 (IntKind.wrap .u64 (bits .and .u8 (v22.toNat : Int) (127 : Int)))) tt_ok rfl rfl ?_
    refine wl_pure tt_ok rfl rfl ?_
    refine wl_pure (v := .int .i64 (IntKind.wrap .i64 ((7 : Int) * j15_9))) tt_ok rfl rfl ?_
    replace h := bsome h; obtain ⟨v51, x51, h⟩ := h
    refine wl_val (v := .int .u64 v51) (val_shl rfl rfl x51) rfl ?_
    refine wl_pure (v := .int .u64 (bits .or .u64 j15_2 v51)) tt_ok rfl rfl ?_
    refine wl_pure tt_ok rfl rfl ?_
    refine wl_nil ?_
    refine wx_then ?_
    refine wc_seq ?_
    refine wc_region ?_
    refine wl_pure tt_ok rfl rfl ?_
    refine wl_pure (v := .bool (decide ((v22.toNat : Int) < (128 : Int)))) tt_ok rfl rfl ?_
    refine wl_nil ?_
    refine wx_then ?_
    refine wc_cond rfl (fun hc => ?_) (fun hc => ?_)
    · replace h := ct hc h
      refine wc_seq ?_
      refine wc_region ?_
      refine wl_pure tt_ok rfl rfl ?_
      refine wl_pure tt_ok rfl rfl ?_
      refine wl_nil ?_
      refine wx_then ?_
      refine wc_ret ?_
      refine wx_block_ret ?_
      refine wx_then_ret ?_
      obtain rfl := Option.some.inj h
      have h := hl15; clear hl15; try dsimp only [orE_l, orE_r] at h
      refine wx_then_ret ?_
      refine wx_block_ret ?_
      refine wx_then_ret ?_
      simp only [Option.some.injEq, Prod.mk.injEq] at h
      obtain ⟨rfl, rfl⟩ := h
      exact wx_spD tt_ok (.inl rfl) Try.results29 (Res.tmp rfl Res.nil) ⟨rfl, rfl⟩ (fun F => by simp) (pSub (pCons Sel.hc pNil))
    replace h := cf hc h
    refine wc_skip ?_
    refine wx_block ?_
    refine wx_then ?_
    refine wc_region ?_
    refine wl_pure (v := .int .i64 (IntKind.wrap .i64 (j15_9 + (1 : Int)))) tt_ok rfl rfl ?_
    refine wl_pure tt_ok rfl rfl ?_
    refine wl_nil ?_
    exact wx_round m15 (Nat.lt_succ_self m15) ⟨(bits .or .u64 j15_2 v51), (IntKind.wrap .i64 (j15_9 + (1 : Int))), (T_codec_Reader.mk o16_0), h, rfl, rfl⟩ (agree_cons rfl (agree_cons rfl (agree_cons rfl agree_nil))) (pSub (pCons Sel.hc pNil))
  replace h := cf hc h
  refine wc_exit ?_
  refine wx_then_exit ?_
  obtain rfl := Option.some.inj h
  have h := hl15; clear hl15; try dsimp only [orE_l, orE_r] at h
  refine wx_then_exit ?_
  refine wx_block_exit ?_
  refine wx_then ?_
  refine wc_seq ?_
  refine wc_region ?_
  refine wl_pure tt_ok rfl rfl ?_
  refine wl_pure tt_ok rfl rfl ?_
  refine wl_nil ?_
  refine wx_then ?_
  refine wc_ret ?_
  simp only [Option.some.injEq, Prod.mk.injEq] at h
  obtain ⟨rfl, rfl⟩ := h
  exact wx_spD tt_ok (.inl rfl) Try.results29 (Res.tmp rfl Res.nil) ⟨rfl, rfl⟩ (fun F => by simp) (pSub (pCons Sel.hc pNil))

theorem k_codec_Reader_Err {F : Nat} {p0 : T_codec_Reader} {p0b p0t : Nat} {r0 : Int} (h : m_codec_Reader_Err F p0 = some r0) :
    Rd2 Try.prog 30 [.pointer (some ⟨p0b, 0, none⟩)] (⟨p0b, [.string ⟨p0.left.s.toArray⟩, .int .i64 p0.left.e], p0t, (0, 0)⟩ :: []) (fun w => True) (.int .i64 r0) := by
  unfold m_codec_Reader_Err at h
  refine sp_of_wc Try.func30 rfl Try.ntmps30 rfl rfl (fun w0 hR => ?_)
  refine wc_seq ?_
  refine wc_region ?_
  refine wl_pure tt_ok rfl rfl ?_
  refine wl_nil ?_
  refine wx_then ?_
  refine wc_seq ?_
  refine wc_seq ?_
  refine wc_region ?_
  refine wl_pure tt_ok rfl rfl ?_
  refine wl_pure (v := .bool false) tt_ok rfl rfl ?_
  refine wl_nil ?_
  refine wx_then ?_
  refine wc_cond_false rfl ?_
  refine wc_skip ?_
  refine wx_then ?_
  refine wc_seq ?_
  refine wc_region ?_
  refine wl_pure tt_ok rfl rfl ?_
  refine wl_pure tt_ok rfl rfl ?_
  refine wl_pure (v := .pointer (some ⟨p0b, 0, none⟩)) tt_ok rfl rfl ?_
  refine wl_pure (v := .pointer (some ⟨p0b, 1, none⟩)) tt_ok rfl rfl ?_
  refine wl_val (v := .int .i64 p0.left.e) (val_load tt_ok rfl (List.Mem.head _) rfl) rfl ?_
  refine wl_pure tt_ok rfl rfl ?_
  refine wl_nil ?_
  refine wx_then ?_
  refine wc_ret ?_
  simp only [Option.some.injEq] at h
  obtain rfl := h
  exact wx_rd tt_ok (.inl rfl) Try.results30 (Res.tmp rfl Res.nil) (pSub (pCons Sel.hc pNil)) rfl

theorem k_codec_get_uint8 {F : Nat} {p0 : T_codec_Reader} {p0b p0t : Nat} {p1 : Int} {r0 : T_codec_Reader} {r1 : Int} (h : m_codec_get_uint8 F p0 p1 = some (r0, r1)) :
    SpD Try.prog 46 [.pointer (some ⟨p0b, 0, none⟩), .int .i64 p1] (⟨p0b, [.string ⟨p0.left.s.toArray⟩, .int .i64 p0.left.e], p0t, (0, 0)⟩ :: []) (fun w => True) (fun v D => v = .int .u8 r1 ∧ D = fun F => (⟨p0b, [.string ⟨r0.left.s.toArray⟩, .int .i64 r0.left.e], p0t, (0, 0)⟩ :: F)) := by
  unfold m_codec_get_uint8 at h
  refine sp_of_wc Try.func46 rfl Try.ntmps46 rfl rfl (fun w0 hR => ?_)
  refine wc_seq ?_
  refine wc_region ?_
  refine wl_pure tt_ok rfl rfl ?_
  refine wl_nil ?_
  refine wx_then ?_
  refine wc_seq ?_
  refine wc_seq ?_
  refine wc_region ?_
  refine wl_pure tt_ok rfl rfl ?_
  refine wl_pure (v := .bool false) tt_ok rfl rfl ?_
  refine wl_nil ?_
  refine wx_then ?_
  refine wc_cond_false rfl ?_
  refine wc_skip ?_
  refine wx_then ?_
  refine wc_seq ?_
  refine wc_region ?_
  refine wl_pure tt_ok rfl rfl ?_
  refine wl_pure tt_ok rfl rfl ?_
  refine wl_pure (v := .pointer (some ⟨p0b, 0, none⟩)) tt_ok rfl rfl ?_
  refine wl_pure tt_ok rfl rfl ?_
  refine wl_pure (v := .int .u64 (IntKind.wrap .u64 p1)) tt_ok rfl rfl ?_
  replace h := bsome h; obtain ⟨⟨o16_0, v16_0, v16_1⟩, x16, h⟩ := h; try dsimp only at h
  refine wl_cs Try.call44 rfl rfl rfl (s_sp (k_codec_left_take x16) (pCons Sel.hc pNil) (fun _ _ => trivial)) rfl ?_
  rintro _ _ ⟨_, ⟨rfl, rfl⟩, rfl⟩
  refine wl_pure tt_ok rfl rfl ?_
  refine wl_pure tt_ok rfl rfl ?_
  refine wl_pure tt_ok rfl rfl ?_
  refine wl_pure tt_ok rfl rfl ?_
  refine wl_pure tt_ok rfl rfl ?_
  refine wl_nil ?_
  refine wx_then ?_
  refine wc_seq ?_
  refine wc_seq ?_
  refine wc_region ?_
  refine wl_pure tt_ok rfl rfl ?_
  refine wl_pure (v := .int .i64 (v16_0.length : Int)) tt_ok rfl rfl ?_
  refine wl_pure tt_ok rfl rfl ?_
  refine wl_nil ?_
  refine wx_then ?_
  refine wc_block ?_
  replace h := bsome h; obtain ⟨l17_4, h, hl17⟩ := h
  refine wc_loop (fun m E L => ∃ (j17_4 : Int) (j17_21 : Int), m_codec_get_uint8_L16 F v16_0 m j17_4 j17_21 = some l17_4 ∧ E = [(4, .int .u8 j17_4), (5, .string ⟨v16_0.toArray⟩), (20, .int .i64 (v16_0.length : Int)), (21, .int .i64 j17_21)] ∧ L = (⟨p0b, [.string ⟨o16_0.s.toArray⟩, .int .i64 o16_0.e], p0t, (0, 0)⟩ :: [])) F ⟨(0 : Int), (0 : Int), h, rfl, rfl⟩ (agree_cons rfl (agree_cons rfl (agree_cons rfl (agree_cons rfl agree_nil)))) (pSub (pCons Sel.hc pNil)) ?_
  clear h
  rintro m17 _ _ ⟨j17_4, j17_21, h, rfl, rfl⟩
  rcases m17 with _ | m17
  · rw [m_codec_get_uint8_L16.eq_1] at h; cases h
  rw [m_codec_get_uint8_L16.eq_2] at h
  refine wc_seq ?_
  refine wc_region ?_
  refine wl_pure (v := .bool (decide (j17_21 < (v16_0.length : Int)))) tt_ok rfl rfl ?_
  refine wl_nil ?_
  refine wx_then ?_
  refine wc_seq ?_
  refine wc_cond rfl (fun hc => ?_) (fun hc => ?_)
  · replace h := ct hc h
    refine wc_skip ?_
    refine wx_then ?_
    refine wc_seq ?_
    refine wc_block ?_
    refine wc_seq ?_
    refine wc_region ?_
    refine wl_pure tt_ok rfl rfl ?_
    refine wl_pure tt_ok rfl rfl ?_
    refine wl_nil ?_
    refine wx_then ?_
    refine wc_region ?_
    refine wl_pure tt_ok rfl rfl ?_
    refine wl_pure tt_ok rfl rfl ?_
    refine wl_pure tt_ok rfl rfl ?_
    replace h := bsome h; obtain ⟨v27, x27, h⟩ := h
    refine wl_val (v := .int .u8 (v27.toNat : Int)) (val_sx tt_ok rfl rfl rfl x27) rfl ?_
    refine wl_pure (v := .int .u64 (IntKind.wrap .u64 (v27.toNat : Int))) tt_ok rfl rfl ?_
    refine wl_pure tt_ok rfl rfl ?_
    refine wl_pure (v := .int .i64 (IntKind.wrap .i64 ((8 : Int) * j17_21))) tt_ok rfl rfl ?_
    replace h := bsome h; obtain ⟨v31, x31, h⟩ := h
    refine wl_val (v := .int .u64 v31) (val_shl rfl rfl x31) rfl ?_
    refine wl_pure (v := .int .u8 (IntKind.wrap .u8 v31)) tt_ok rfl rfl ?_
    refine wl_pure (v := .int .u8 (bits .or .u8 j17_4 (IntKind.wrap .u8 v31))) tt_ok rfl rfl ?_
    refine wl_pure tt_ok rfl rfl ?_
    refine wl_nil ?_
    refine wx_block ?_
    refine wx_then ?_
    refine wc_region ?_
    refine wl_pure (v := .int .i64 (IntKind.wrap .i64 (j17_21 + (1 : Int)))) tt_ok rfl rfl ?_
    refine wl_pure tt_ok rfl rfl ?_
    refine wl_nil ?_
    exact wx_round m17 (Nat.lt_succ_self m17) ⟨(bits .or .u8 j17_4 (IntKind.wrap .u8 v31)), (IntKind.wrap .i64 (j17_21 + (1 : Int))), h, rfl, rfl⟩ (agree_cons rfl (agree_cons rfl (agree_cons rfl (agree_cons rfl agree_nil)))) (pSub (pCons Sel.hc pNil))
  replace h := cf hc h
  refine wc_exit ?_
  refine wx_then_exit ?_
  simp only [Option.some.injEq] at h
  obtain rfl := h
  have h := hl17; clear hl17; try dsimp only [orE_l, orE_r] at h
  refine wx_then_exit ?_
  refine wx_block_exit ?_
  refine wx_then ?_
  refine wc_seq ?_
  refine wc_region ?_
  refine wl_pure tt_ok rfl rfl ?_
  refine wl_pure tt_ok rfl rfl ?_
  refine wl_nil ?_
  refine wx_then ?_
  refine wc_ret ?_
  simp only [Option.some.injEq, Prod.mk.injEq] at h
  obtain ⟨rfl, rfl⟩ := h
  exact wx_spD tt_ok (.inl rfl) Try.results46 (Res.tmp rfl Res.nil) ⟨rfl, rfl⟩ (fun F => by simp) (pSub (pCons Sel.hc pNil))

theorem k_codec_Reader_U8 {F : Nat} {p0 : T_codec_Reader} {p0b p0t : Nat} {r0 : T_codec_Reader} {r1 : Int} (h : m_codec_Reader_U8 F p0 = some (r0, r1)) :
    SpD Try.prog 31 [.pointer (some ⟨p0b, 0, none⟩)] (⟨p0b, [.string ⟨p0.left.s.toArray⟩, .int .i64 p0.left.e], p0t, (0, 0)⟩ :: []) (fun w => True) (fun v D => v = .int .u8 r1 ∧ D = fun F => (⟨p0b, [.string ⟨r0.left.s.toArray⟩, .int .i64 r0.left.e], p0t, (0, 0)⟩ :: F)) := by
  unfold m_codec_Reader_U8 at h
  refine sp_of_wc Try.func31 rfl Try.ntmps31 rfl rfl (fun w0 hR => ?_)
  refine wc_seq ?_
  refine wc_region ?_
  refine wl_pure tt_ok rfl rfl ?_
  refine wl_nil ?_
  refine wx_then ?_
  refine wc_seq ?_
  refine wc_region ?_
  refine wl_pure tt_ok rfl rfl ?_
  replace h := bsome h; obtain ⟨⟨o4_0, v4⟩, x4, h⟩ := h; try dsimp only at h
  refine wl_cs Try.call46 rfl rfl rfl (s_sp (k_codec_get_uint8 x4) (pCons Sel.hc pNil) (fun _ _ => trivial)) rfl ?_
  rintro _ _ ⟨_, ⟨rfl, rfl⟩, rfl⟩
  refine wl_pure tt_ok rfl rfl ?_
  refine wl_nil ?_
  refine wx_then ?_
  refine wc_ret ?_
  simp only [Option.some.injEq, Prod.mk.injEq] at h
  obtain ⟨rfl, rfl⟩ := h
  exact wx_spD tt_ok (.inl rfl) Try.results31 (Res.tmp rfl Res.nil) ⟨rfl, rfl⟩ (fun F => by simp) (pSub (pCons Sel.hc pNil))

theorem k_input_Legal {F : Nat} {p0 : Int} {r0 : Bool} (h : m_input_Legal F p0 = some r0) :
    Pf Try.prog 18 [.int .u8 p0] (fun w => True) (.bool r0) := by
  unfold m_input_Legal at h
  refine pf_of_wc Try.func18 rfl Try.ntmps18 rfl rfl (fun w0 hR => ?_)
  refine wc_seq ?_
  refine wc_region ?_
  refine wl_pure tt_ok rfl rfl ?_
  refine wl_nil ?_
  refine wx_then ?_
  refine wc_seq ?_
  refine wc_region ?_
  refine wl_pure tt_ok rfl rfl ?_
  refine wl_pure (v := .bool (decide (p0 < (64 : Int)))) tt_ok rfl rfl ?_
  refine wl_pure tt_ok rfl rfl ?_
  refine wl_nil ?_
  refine wx_then ?_
  refine wc_ret ?_
  simp only [Option.some.injEq] at h
  obtain rfl := h
  exact wx_pf tt_ok (.inl rfl) Try.results18 (Res.tmp rfl Res.nil) rfl

theorem k_codec_Reader_Rest {F : Nat} {p0 : T_codec_Reader} {p0b p0t : Nat} {r0 : (List UInt8)} (h : m_codec_Reader_Rest F p0 = some r0) :
    Rd2 Try.prog 32 [.pointer (some ⟨p0b, 0, none⟩)] (⟨p0b, [.string ⟨p0.left.s.toArray⟩, .int .i64 p0.left.e], p0t, (0, 0)⟩ :: []) (fun w => True) (.string ⟨r0.toArray⟩) := by
  unfold m_codec_Reader_Rest at h
  refine sp_of_wc Try.func32 rfl Try.ntmps32 rfl rfl (fun w0 hR => ?_)
  refine wc_seq ?_
  refine wc_region ?_
  refine wl_pure tt_ok rfl rfl ?_
  refine wl_nil ?_
  refine wx_then ?_
  refine wc_seq ?_
  refine wc_seq ?_
  refine wc_region ?_
  refine wl_pure tt_ok rfl rfl ?_
  refine wl_pure (v := .bool false) tt_ok rfl rfl ?_
  refine wl_nil ?_
  refine wx_then ?_
  refine wc_cond_false rfl ?_
  refine wc_skip ?_
  refine wx_then ?_
  refine wc_seq ?_
  refine wc_region ?_
  refine wl_pure tt_ok rfl rfl ?_
  refine wl_pure tt_ok rfl rfl ?_
  refine wl_pure (v := .pointer (some ⟨p0b, 0, none⟩)) tt_ok rfl rfl ?_
  refine wl_pure (v := .pointer (some ⟨p0b, 0, none⟩)) tt_ok rfl rfl ?_
  refine wl_val (v := .string ⟨p0.left.s.toArray⟩) (val_load tt_ok rfl (List.Mem.head _) rfl) rfl ?_
  refine wl_pure tt_ok rfl rfl ?_
  refine wl_nil ?_
  refine wx_then ?_
  refine wc_ret ?_
  simp only [Option.some.injEq] at h
  obtain rfl := h
  exact wx_rd tt_ok (.inl rfl) Try.results32 (Res.tmp rfl Res.nil) (pSub (pCons Sel.hc pNil)) rfl

theorem k_input_Unpack {F : Nat} {p0 : (List UInt8)} {p1 : Int} {r0 : (List Int)} {r1 : Int} (h : m_input_Unpack F p0 p1 = some (r0, r1)) :
    SpD Try.prog 11 [.string ⟨p0.toArray⟩, .int .i64 p1] [] (fun w => True) (fun v D => ∃ (r0a0 : Option Addr) (r0n0 r0c0 : Nat) (r0B0 : List Blk), r0n0 = r0.length ∧ Own 35 1 r0a0 r0n0 r0c0 (flat (e1 .u8) r0) r0B0 ∧ v = .tuple #[.slice r0a0 r0n0 r0c0, .int .i64 r1] ∧ D = fun F => (r0B0 ++ F)) := by
  unfold m_input_Unpack at h
  refine sp_of_wc Try.func11 rfl Try.ntmps11 rfl rfl (fun w0 hR => ?_)
  refine wc_seq ?_
  refine wc_region ?_
  refine wl_pure tt_ok rfl rfl ?_
  refine wl_pure tt_ok rfl rfl ?_
  refine wl_nil ?_
  refine wx_then ?_
  refine wc_seq ?_
  refine wc_region ?_
  refine wl_pure tt_ok rfl rfl ?_
  refine wl_pure (v := .int .i64 (min p1 (4096 : Int))) tt_ok rfl rfl ?_
  refine wl_pure (v := .int .i64 (max (0 : Int) (min p1 (4096 : Int)))) tt_ok rfl rfl ?_
  refine wl_pure tt_ok rfl rfl ?_
  refine wl_nil ?_
  refine wx_then ?_
  refine wc_seq ?_
  refine wc_region ?_
  refine wl_pure tt_ok rfl rfl ?_
  replace h := bsome h; obtain ⟨v16, x16, h⟩ := h
  refine wl_cs Try.call28 rfl rfl rfl (s_sp (k_codec_New x16) pNil (fun _ _ => trivial)) rfl ?_
  rintro _ _ ⟨_, ⟨b16_0, rfl, rfl⟩, rfl⟩
  refine wl_pure tt_ok rfl rfl ?_
  refine wl_nil ?_
  refine wx_then ?_
  refine wc_seq ?_
  refine wc_region ?_
  refine wl_pure tt_ok rfl rfl ?_
  replace h := bsome h; obtain ⟨⟨o18_0, v18⟩, x18, h⟩ := h; try dsimp only at h
  refine wl_cs Try.call29 rfl rfl rfl (s_sp (k_codec_Reader_Var x18) (pCons Sel.hc pNil) (fun _ _ => trivial)) rfl ?_
  rintro _ _ ⟨_, ⟨rfl, rfl⟩, rfl⟩
  refine wl_pure tt_ok rfl rfl ?_
  refine wl_nil ?_
  refine wx_then ?_
  refine wc_seq ?_
  refine wc_block ?_
  refine wc_seq ?_
  refine wc_region ?_
  refine wl_pure tt_ok rfl rfl ?_
  replace h := bsome h; obtain ⟨v21, x21, h⟩ := h
  refine wl_cq Try.call30 rfl rfl rfl (q_rd (k_codec_Reader_Err x21) (pCons Sel.hc pNil) (fun _ _ => trivial)) rfl ?_
  refine wl_pure (v := .bool (v21 != (0 : Int))) tt_ok rfl rfl ?_
  refine wl_pure tt_ok rfl rfl ?_
  refine wl_nil ?_
  refine wx_then ?_
  refine wc_cond rfl (fun hc => ?_) (fun hc => ?_)
  · replace h := ct hc h
    refine wc_seq ?_
    refine wc_region ?_
    refine wl_pure tt_ok rfl rfl ?_
    replace h := bsome h; obtain ⟨v24, x24, h⟩ := h
    refine wl_cq Try.call30 rfl rfl rfl (q_rd (k_codec_Reader_Err x24) (pCons Sel.hc pNil) (fun _ _ => trivial)) rfl ?_
    refine wl_pure tt_ok rfl rfl ?_
    refine wl_pure tt_ok rfl rfl ?_
    refine wl_nil ?_
    refine wx_then ?_
    refine wc_ret ?_
    refine wx_block_ret ?_
    refine wx_then_ret ?_
    simp only [Option.some.injEq, Prod.mk.injEq] at h
    obtain ⟨rfl, rfl⟩ := h
    exact wx_spD tt_ok (.inl rfl) Try.results11 (Res.tmp rfl (Res.tmp rfl Res.nil)) ⟨none, 0, 0, [], rfl, Own.zero, rfl, rfl⟩ (fun F => by simp) (pSub (pNo pNil))
  replace h := cf hc h
  refine wc_seq ?_
  refine wc_region ?_
  refine wl_pure tt_ok rfl rfl ?_
  refine wl_pure tt_ok rfl rfl ?_
  refine wl_pure (v := .int .u64 (IntKind.wrap .u64 (max (0 : Int) (min p1 (4096 : Int))))) tt_ok rfl rfl ?_
  refine wl_pure (v := .bool (decide ((IntKind.wrap .u64 (max (0 : Int) (min p1 (4096 : Int)))) < v18))) tt_ok rfl rfl ?_
  refine wl_pure tt_ok rfl rfl ?_
  refine wl_nil ?_
  refine wx_then ?_
  refine wc_cond rfl (fun hc => ?_) (fun hc => ?_)
  · replace h := ct hc h
    refine wc_seq ?_
    refine wc_region ?_
    refine wl_pure tt_ok rfl rfl ?_
    refine wl_pure tt_ok rfl rfl ?_
    refine wl_nil ?_
    refine wx_then ?_
    refine wc_ret ?_
    refine wx_block_ret ?_
    refine wx_then_ret ?_
    simp only [Option.some.injEq, Prod.mk.injEq] at h
    obtain ⟨rfl, rfl⟩ := h
    exact wx_spD tt_ok (.inl rfl) Try.results11 (Res.tmp rfl (Res.tmp rfl Res.nil)) ⟨none, 0, 0, [], rfl, Own.zero, rfl, rfl⟩ (fun F => by simp) (pSub (pNo pNil))
  replace h := cf hc h
  refine wc_skip ?_
  refine wx_block ?_
  refine wx_then ?_
  refine wc_seq ?_
  refine wc_region ?_
  refine wl_pure tt_ok rfl rfl ?_
  refine wl_nil ?_
  refine wx_then ?_
  refine wc_seq ?_
  refine wc_seq ?_
  refine wc_region ?_
  refine wl_pure tt_ok rfl rfl ?_
  refine wl_pure tt_ok rfl rfl ?_
  refine wl_nil ?_
  refine wx_then ?_
  refine wc_block ?_
  replace h := bsome h; obtain ⟨o30, h, hl30⟩ := h
  refine wc_loop (fun m E L => ∃ (j30_8 : (List Int)) (j30_31 : Int) (j30_n16_0 : T_codec_Reader) (j30_8a0 : Option Addr) (j30_8n0 : Nat) (j30_8c0 : Nat) (j30_8B0 : List Blk), m_input_Unpack_L29 F p1 v18 m j30_8 j30_31 j30_n16_0 = some o30 ∧ j30_8n0 = j30_8.length ∧ Own 35 1 j30_8a0 j30_8n0 j30_8c0 (flat (e1 .u8) j30_8) j30_8B0 ∧ E = [(1, .int .i64 (max (0 : Int) (min p1 (4096 : Int)))), (4, .slice none 0 0), (5, .int .i64 (0 : Int)), (6, .pointer (some ⟨b16_0, 0, none⟩)), (8, .slice j30_8a0 j30_8n0 j30_8c0), (30, .int .u64 v18), (31, .int .u64 j30_31)] ∧ L = (⟨b16_0, [.string ⟨j30_n16_0.left.s.toArray⟩, .int .i64 j30_n16_0.left.e], 72, (0, 0)⟩ :: (j30_8B0 ++ []))) F ⟨([] : List Int), (0 : Int), o18_0, none, 0, 0, [], h, rfl, Own.zero, rfl, rfl⟩ (agree_cons rfl (agree_cons rfl (agree_cons rfl (agree_cons rfl (agree_cons rfl (agree_cons rfl (agree_cons rfl agree_nil))))))) (pSub (pCons Sel.hc (pNo pNil))) ?_
  clear h
  rintro m30 _ _ ⟨j30_8, j30_31, j30_n16_0, j30_8a0, j30_8n0, j30_8c0, j30_8B0, h, j30_8N0, j30_8V0, rfl, rfl⟩
  rcases m30 with _ | m30
  · rw [m_input_Unpack_L29.eq_1] at h; cases h
  rw [m_input_Unpack_L29.eq_2] at h
  refine wc_seq ?_
  refine wc_region ?_
  refine wl_pure (v := .bool (decide (j30_31 < v18))) tt_ok rfl rfl ?_
  refine wl_nil ?_
  refine wx_then ?_
  refine wc_seq ?_
  refine wc_cond rfl (fun hc => ?_) (fun hc => ?_)
  · replace h := ct hc h
    refine wc_skip ?_
    refine wx_then ?_
    refine wc_seq ?_
    refine wc_block ?_
    refine wc_seq ?_
    refine wc_region ?_
    refine wl_pure tt_ok rfl rfl ?_
    refine wl_pure tt_ok rfl rfl ?_
    refine wl_nil ?_
    refine wx_then ?_
    refine wc_seq ?_
    refine wc_region ?_
    refine wl_pure tt_ok rfl rfl ?_
    replace h := bsome h; obtain ⟨⟨o35_0, v35⟩, x35, h⟩ := h; try dsimp only at h
    refine wl_cs Try.call29 rfl rfl rfl (s_sp (k_codec_Reader_Var x35) (pCons Sel.hc pNil) (fun _ _ => trivial)) rfl ?_
    rintro _ _ ⟨_, ⟨rfl, rfl⟩, rfl⟩
    refine wl_pure tt_ok rfl rfl ?_
    replace h := bsome h; obtain ⟨⟨o37_0, v37⟩, x37, h⟩ := h; try dsimp only at h
    refine wl_cs Try.call31 rfl rfl rfl (s_sp (k_codec_Reader_U8 x37) (pCons Sel.hc pNil) (fun _ _ => trivial)) rfl ?_
    rintro _ _ ⟨_, ⟨rfl, rfl⟩, rfl⟩
    refine wl_pure tt_ok rfl rfl ?_
    refine wl_pure tt_ok rfl rfl ?_
    refine wl_nil ?_
    refine wx_then ?_
    refine wc_seq ?_
    refine wc_block ?_
    refine wc_seq ?_
    refine wc_region ?_
    refine wl_pure tt_ok rfl rfl ?_
    replace h := bsome h; obtain ⟨v40, x40, h⟩ := h
    refine wl_cq Try.call30 rfl rfl rfl (q_rd (k_codec_Reader_Err x40) (pCons Sel.hc pNil) (fun _ _ => trivial)) rfl ?_
    refine wl_pure (v := .bool (v40 != (0 : Int))) tt_ok rfl rfl ?_
    refine wl_pure tt_ok rfl rfl ?_
    refine wl_nil ?_
    refine wx_then ?_
    refine wc_cond rfl (fun hc => ?_) (fun hc => ?_)
    · replace h := ct hc h
      refine wc_seq ?_
      refine wc_region ?_
      refine wl_pure tt_ok rfl rfl ?_
      replace h := bsome h; obtain ⟨v43, x43, h⟩ := h
      refine wl_cq Try.call30 rfl rfl rfl (q_rd (k_codec_Reader_Err x43) (pCons Sel.hc pNil) (fun _ _ => trivial)) rfl ?_
      refine wl_pure tt_ok rfl rfl ?_
      refine wl_pure tt_ok rfl rfl ?_
      refine wl_nil ?_
      refine wx_then ?_
      refine wc_ret ?_
      refine wx_block_ret ?_
      refine wx_then_ret ?_
      refine wx_block_ret ?_
      refine wx_then_ret ?_
      obtain rfl := Option.some.inj h
      have h := hl30; clear hl30; try dsimp only [orE_l, orE_r] at h
      refine wx_then_ret ?_
      refine wx_block_ret ?_
      refine wx_then_ret ?_
      simp only [Option.some.injEq, Prod.mk.injEq] at h
      obtain ⟨rfl, rfl⟩ := h
      exact wx_spD tt_ok (.inl rfl) Try.results11 (Res.tmp rfl (Res.tmp rfl Res.nil)) ⟨none, 0, 0, [], rfl, Own.zero, rfl, rfl⟩ (fun F => by simp) (pSub (pNo pNil))
    replace h := cf hc h
    refine wc_seq ?_
    refine wc_region ?_
    refine wl_pure tt_ok rfl rfl ?_
    refine wl_pure (v := .bool (v35 == (0 : Int))) tt_ok rfl rfl ?_
    refine wl_pure tt_ok rfl rfl ?_
    replace h := bsome h; obtain ⟨v51, h, hg51⟩ := h
    refine wl_split (t := 47) rfl (fun hc => ?_) (fun hc => ?_)
    · replace h := ct hc h
      refine wl_skip rfl rfl ?_
      refine wl_skip rfl rfl ?_
      refine wl_skip rfl rfl ?_
      simp only [Option.some.injEq, Prod.mk.injEq] at h
      obtain rfl := h
      have h := hg51; clear hg51
      refine wl_pure (v := .bool true) tt_ok rfl rfl ?_
      refine wl_pure tt_ok rfl rfl ?_
      replace h := bsome h; obtain ⟨v65, h, hg65⟩ := h
      replace h := ct rfl h
      refine wl_skip rfl rfl ?_
      refine wl_skip rfl rfl ?_
      refine wl_skip rfl rfl ?_
      refine wl_skip rfl rfl ?_
      refine wl_skip rfl rfl ?_
      refine wl_skip rfl rfl ?_
      refine wl_skip rfl rfl ?_
      refine wl_skip rfl rfl ?_
      refine wl_skip rfl rfl ?_
      refine wl_skip rfl rfl ?_
      refine wl_skip rfl rfl ?_
      refine wl_skip rfl rfl ?_
      simp only [Option.some.injEq, Prod.mk.injEq] at h
      obtain rfl := h
      have h := hg65; clear hg65
      refine wl_pure (v := .bool true) tt_ok rfl rfl ?_
      refine wl_pure tt_ok rfl rfl ?_
      refine wl_nil ?_
      refine wx_then ?_
      replace h := ct rfl h
      refine wc_cond_true rfl ?_
      refine wc_seq ?_
      refine wc_region ?_
      refine wl_pure tt_ok rfl rfl ?_
      refine wl_pure tt_ok rfl rfl ?_
      refine wl_nil ?_
      refine wx_then ?_
      refine wc_ret ?_
      refine wx_block_ret ?_
      refine wx_then_ret ?_
      refine wx_block_ret ?_
      refine wx_then_ret ?_
      obtain rfl := Option.some.inj h
      have h := hl30; clear hl30; try dsimp only [orE_l, orE_r] at h
      refine wx_then_ret ?_
      refine wx_block_ret ?_
      refine wx_then_ret ?_
      simp only [Option.some.injEq, Prod.mk.injEq] at h
      obtain ⟨rfl, rfl⟩ := h
      exact wx_spD tt_ok (.inl rfl) Try.results11 (Res.tmp rfl (Res.tmp rfl Res.nil)) ⟨none, 0, 0, [], rfl, Own.zero, rfl, rfl⟩ (fun F => by simp) (pSub (pNo pNil))
    replace h := cf hc h
    refine wl_run rfl ?_
    refine wl_pure tt_ok rfl rfl ?_
    replace h := bsome h; obtain ⟨v49, x49, h⟩ := h
    refine wl_run rfl ?_
    refine wl_cq Try.call18 rfl rfl rfl (q_pf (k_input_Legal x49) (fun _ _ => trivial)) rfl ?_
    refine wl_run rfl ?_
    refine wl_pure (v := .bool (!v49)) tt_ok rfl rfl ?_
    simp only [Option.some.injEq, Prod.mk.injEq] at h
    obtain rfl := h
    have h := hg51; clear hg51
    refine wl_pure (v := .bool (!v49)) tt_ok rfl rfl ?_
    refine wl_pure tt_ok rfl rfl ?_
    replace h := bsome h; obtain ⟨v65, h, hg65⟩ := h
    refine wl_split (t := 52) rfl (fun hc => ?_) (fun hc => ?_)
    · replace h := ct hc h
      refine wl_skip rfl rfl ?_
      refine wl_skip rfl rfl ?_
      refine wl_skip rfl rfl ?_
      refine wl_skip rfl rfl ?_
      refine wl_skip rfl rfl ?_
      refine wl_skip rfl rfl ?_
      refine wl_skip rfl rfl ?_
      refine wl_skip rfl rfl ?_
      refine wl_skip rfl rfl ?_
      refine wl_skip rfl rfl ?_
      refine wl_skip rfl rfl ?_
      refine wl_skip rfl rfl ?_
      simp only [Option.some.injEq, Prod.mk.injEq] at h
      obtain rfl := h
      have h := hg65; clear hg65
      refine wl_pure (v := .bool true) tt_ok rfl rfl ?_
      refine wl_pure tt_ok rfl rfl ?_
      refine wl_nil ?_
      refine wx_then ?_
      replace h := ct rfl h
      refine wc_cond_true rfl ?_
      refine wc_seq ?_
      refine wc_region ?_
      refine wl_pure tt_ok rfl rfl ?_
      refine wl_pure tt_ok rfl rfl ?_
      refine wl_nil ?_
      refine wx_then ?_
      refine wc_ret ?_
      refine wx_block_ret ?_
      refine wx_then_ret ?_
      refine wx_block_ret ?_
      refine wx_then_ret ?_
      obtain rfl := Option.some.inj h
      have h := hl30; clear hl30; try dsimp only [orE_l, orE_r] at h
      refine wx_then_ret ?_
      refine wx_block_ret ?_
      refine wx_then_ret ?_
      simp only [Option.some.injEq, Prod.mk.injEq] at h
      obtain ⟨rfl, rfl⟩ := h
      exact wx_spD tt_ok (.inl rfl) Try.results11 (Res.tmp rfl (Res.tmp rfl Res.nil)) ⟨none, 0, 0, [], rfl, Own.zero, rfl, rfl⟩ (fun F => by simp) (pSub (pNo pNil))
    replace h := cf hc h
    refine wl_run rfl ?_
    refine wl_pure tt_ok rfl rfl ?_
    refine wl_run rfl ?_
    refine wl_pure (v := .bool (decide ((0 : Int) < j30_31))) tt_ok rfl rfl ?_
    refine wl_run rfl ?_
    refine wl_pure tt_ok rfl rfl ?_
    replace h := bsome h; obtain ⟨v64, h, hg64⟩ := h
    refine wl_split (t := 55) rfl (fun hc => ?_) (fun hc => ?_)
    · replace h := ct hc h
      refine wl_run rfl ?_
      refine wl_pure tt_ok rfl rfl ?_
      refine wl_run rfl ?_
      refine wl_pure tt_ok rfl rfl ?_
      refine wl_run rfl ?_
      refine wl_val (v := .int .i64 (j30_8.length : Int)) (val_len tt_ok rfl rfl j30_8N0) rfl ?_
      refine wl_run rfl ?_
      refine wl_pure (v := .int .i64 (IntKind.wrap .i64 ((j30_8.length : Int) - (1 : Int)))) tt_ok rfl rfl ?_
      replace h := bsome h; obtain ⟨v60, x60, h⟩ := h
      refine wl_run rfl ?_
      refine wl_val (v := .pointer (some ((adOf j30_8a0).add ((IntKind.wrap .i64 ((j30_8.length : Int) - (1 : Int))).toNat * 1 + 0)))) (val_ix (enc := (e1 .u8)) tt_ok rfl rfl rfl rfl j30_8N0 (Rds.of_vec j30_8V0) (e1_len _) rfl x60) rfl ?_
      refine wl_run rfl ?_
      refine wl_val (v := .int .u8 v60) (val_le (enc := (e1 .u8)) (xs := j30_8) tt_ok rfl (Rds.of_vec j30_8V0) ⟨_, (Sel.sc Sel.ha)⟩ (e1_len _) x60 rfl) rfl ?_
      refine wl_run rfl ?_
      refine wl_pure tt_ok rfl rfl ?_
      refine wl_run rfl ?_
      refine wl_pure (v := .bool (v60 == v37)) tt_ok rfl rfl ?_
      simp only [Option.some.injEq, Prod.mk.injEq] at h
      obtain rfl := h
      have h := hg64; clear hg64
      refine wl_run rfl ?_
      refine wl_pure (v := .bool (v60 == v37)) tt_ok rfl rfl ?_
      simp only [Option.some.injEq, Prod.mk.injEq] at h
      obtain rfl := h
      have h := hg65; clear hg65
      refine wl_pure (v := .bool (v60 == v37)) tt_ok rfl rfl ?_
      refine wl_pure tt_ok rfl rfl ?_
      refine wl_nil ?_
      refine wx_then ?_
      refine wc_cond rfl (fun hc => ?_) (fun hc => ?_)
      · replace h := ct hc h
        refine wc_seq ?_
        refine wc_region ?_
        refine wl_pure tt_ok rfl rfl ?_
        refine wl_pure tt_ok rfl rfl ?_
        refine wl_nil ?_
        refine wx_then ?_
        refine wc_ret ?_
        refine wx_block_ret ?_
        refine wx_then_ret ?_
        refine wx_block_ret ?_
        refine wx_then_ret ?_
        obtain rfl := Option.some.inj h
        have h := hl30; clear hl30; try dsimp only [orE_l, orE_r] at h
        refine wx_then_ret ?_
        refine wx_block_ret ?_
        refine wx_then_ret ?_
        simp only [Option.some.injEq, Prod.mk.injEq] at h
        obtain ⟨rfl, rfl⟩ := h
        exact wx_spD tt_ok (.inl rfl) Try.results11 (Res.tmp rfl (Res.tmp rfl Res.nil)) ⟨none, 0, 0, [], rfl, Own.zero, rfl, rfl⟩ (fun F => by simp) (pSub (pNo pNil))
      replace h := cf hc h
      refine wc_seq ?_
      refine wc_region ?_
      refine wl_pure tt_ok rfl rfl ?_
      refine wl_pure tt_ok rfl rfl ?_
      refine wl_pure tt_ok rfl rfl ?_
      refine wl_val (v := .int .i64 (j30_8.length : Int)) (val_len tt_ok rfl rfl j30_8N0) rfl ?_
      refine wl_pure (v := .int .i64 (IntKind.wrap .i64 ((max (0 : Int) (min p1 (4096 : Int))) - (j30_8.length : Int)))) tt_ok rfl rfl ?_
      refine wl_pure (v := .int .u64 (IntKind.wrap .u64 (IntKind.wrap .i64 ((max (0 : Int) (min p1 (4096 : Int))) - (j30_8.length : Int))))) tt_ok rfl rfl ?_
      refine wl_pure (v := .bool (decide ((IntKind.wrap .u64 (IntKind.wrap .i64 ((max (0 : Int) (min p1 (4096 : Int))) - (j30_8.length : Int)))) < v35))) tt_ok rfl rfl ?_
      refine wl_pure tt_ok rfl rfl ?_
      refine wl_nil ?_
      refine wx_then ?_
      refine wc_cond rfl (fun hc => ?_) (fun hc => ?_)
      · replace h := ct hc h
        refine wc_seq ?_
        refine wc_region ?_
        refine wl_pure tt_ok rfl rfl ?_
        refine wl_pure tt_ok rfl rfl ?_
        refine wl_nil ?_
        refine wx_then ?_
        refine wc_ret ?_
        refine wx_block_ret ?_
        refine wx_then_ret ?_
        refine wx_block_ret ?_
        refine wx_then_ret ?_
        obtain rfl := Option.some.inj h
        have h := hl30; clear hl30; try dsimp only [orE_l, orE_r] at h
        refine wx_then_ret ?_
        refine wx_block_ret ?_
        refine wx_then_ret ?_
        simp only [Option.some.injEq, Prod.mk.injEq] at h
        obtain ⟨rfl, rfl⟩ := h
        exact wx_spD tt_ok (.inl rfl) Try.results11 (Res.tmp rfl (Res.tmp rfl Res.nil)) ⟨none, 0, 0, [], rfl, Own.zero, rfl, rfl⟩ (fun F => by simp) (pSub (pNo pNil))
      replace h := cf hc h
      refine wc_skip ?_
      refine wx_block ?_
      refine wx_then ?_
      refine wc_seq ?_
      refine wc_region ?_
      refine wl_pure tt_ok rfl rfl ?_
      refine wl_pure tt_ok rfl rfl ?_
      refine wl_nil ?_
      refine wx_then ?_
      refine wc_block ?_
      replace h := bsome h; obtain ⟨l67_8, h, hl67⟩ := h
      refine wc_loop (fun m E L => ∃ (j67_8 : (List Int)) (j67_75 : Int) (j67_8a0 : Option Addr) (j67_8n0 : Nat) (j67_8c0 : Nat) (j67_8B0 : List Blk), m_input_Unpack_L66 F v35 v37 m j67_8 j67_75 = some l67_8 ∧ j67_8n0 = j67_8.length ∧ Own 35 1 j67_8a0 j67_8n0 j67_8c0 (flat (e1 .u8) j67_8) j67_8B0 ∧ E = [(1, .int .i64 (max (0 : Int) (min p1 (4096 : Int)))), (4, .slice none 0 0), (5, .int .i64 (0 : Int)), (6, .pointer (some ⟨b16_0, 0, none⟩)), (8, .slice j67_8a0 j67_8n0 j67_8c0), (11, .int .u8 v37), (30, .int .u64 v18), (31, .int .u64 j30_31), (74, .int .u64 v35), (75, .int .u64 j67_75)] ∧ L = (⟨b16_0, [.string ⟨o37_0.left.s.toArray⟩, .int .i64 o37_0.left.e], 72, (0, 0)⟩ :: (j67_8B0 ++ []))) F ⟨j30_8, (0 : Int), j30_8a0, j30_8n0, j30_8c0, j30_8B0, h, j30_8N0, j30_8V0, rfl, rfl⟩ (agree_cons rfl (agree_cons rfl (agree_cons rfl (agree_cons rfl (agree_cons rfl (agree_cons rfl (agree_cons rfl (agree_cons rfl (agree_cons rfl (agree_cons rfl agree_nil)))))))))) (pSub (pCons Sel.hc (pApp Sel.ha pNil))) ?_
      clear h
      rintro m67 _ _ ⟨j67_8, j67_75, j67_8a0, j67_8n0, j67_8c0, j67_8B0, h, j67_8N0, j67_8V0, rfl, rfl⟩
      rcases m67 with _ | m67
      · rw [m_input_Unpack_L66.eq_1] at h; cases h
      rw [m_input_Unpack_L66.eq_2] at h
      refine wc_seq ?_
      refine wc_region ?_
      refine wl_pure (v := .bool (decide (j67_75 < v35))) tt_ok rfl rfl ?_
      refine wl_nil ?_
      refine wx_then ?_
      refine wc_seq ?_
      refine wc_cond rfl (fun hc => ?_) (fun hc => ?_)
      · replace h := ct hc h
        refine wc_skip ?_
        refine wx_then ?_
        refine wc_seq ?_
        refine wc_block ?_
        refine wc_region ?_
        refine wl_pure tt_ok rfl rfl ?_
        refine wl_pure tt_ok rfl rfl ?_
        refine wl_chg (chg_bsv (enc := (e1 .u8)) (xs := ([v37] : List Int)) tt_ok rfl rfl rfl rfl rfl rfl rfl rfl (e1_len _)) rfl ?_
        rintro _ _ ⟨a79, n79_, c79, B79, rfl, N79, V79, rfl⟩
        replace h := bsome h; obtain ⟨v80, x80, h⟩ := h
        refine wl_chg (chg_app (enc := (e1 .u8)) (ys := ([v37] : List Int)) tt_ok rfl rfl rfl rfl rfl rfl j67_8N0 N79 j67_8V0 (Sel.sa (Sel.sc Sel.ha)) (Rds.of_vec V79) ⟨_, Sel.ha⟩ (e1_len _) (fun _ => rfl) rfl x80) rfl ?_
        rintro _ _ ⟨a80, n80_, c80, B80, rfl, N80, V80, rfl⟩
        refine wl_pure tt_ok rfl rfl ?_
        refine wl_nil ?_
        refine wx_block ?_
        refine wx_then ?_
        refine wc_region ?_
        refine wl_pure (v := .int .u64 (IntKind.wrap .u64 (j67_75 + (1 : Int)))) tt_ok rfl rfl ?_
        refine wl_pure tt_ok rfl rfl ?_
        refine wl_nil ?_
        exact wx_round m67 (Nat.lt_succ_self m67) ⟨v80, (IntKind.wrap .u64 (j67_75 + (1 : Int))), a80, n80_, c80, B80, h, N80, V80, rfl, rfl⟩ (agree_cons rfl (agree_cons rfl (agree_cons rfl (agree_cons rfl (agree_cons rfl (agree_cons rfl (agree_cons rfl (agree_cons rfl (agree_cons rfl (agree_cons rfl agree_nil)))))))))) (pSub (pCons (Sel.sa (Sel.sa Sel.hc)) (pApp Sel.ha pNil)))
      replace h := cf hc h
      refine wc_exit ?_
      refine wx_then_exit ?_
      simp only [Option.some.injEq] at h
      obtain rfl := h
      have h := hl67; clear hl67; try dsimp only [orE_l, orE_r] at h
      refine wx_then_exit ?_
      refine wx_block_exit ?_
      refine wx_block ?_
      refine wx_then ?_
      refine wc_region ?_
      refine wl_pure (v := .int .u64 (IntKind.wrap .u64 (j30_31 + (1 : Int)))) tt_ok rfl rfl ?_
      refine wl_pure tt_ok rfl rfl ?_
      refine wl_nil ?_
      exact wx_round m30 (Nat.lt_succ_self m30) ⟨j67_8, (IntKind.wrap .u64 (j30_31 + (1 : Int))), o37_0, j67_8a0, j67_8n0, j67_8c0, j67_8B0, h, j67_8N0, j67_8V0, rfl, rfl⟩ (agree_cons rfl (agree_cons rfl (agree_cons rfl (agree_cons rfl (agree_cons rfl (agree_cons rfl (agree_cons rfl agree_nil))))))) (pSub (pCons Sel.hc (pApp Sel.ha pNil)))
    replace h := cf hc h
    refine wl_skip rfl rfl ?_
    refine wl_skip rfl rfl ?_
    refine wl_skip rfl rfl ?_
    refine wl_skip rfl rfl ?_
    refine wl_skip rfl rfl ?_
    refine wl_skip rfl rfl ?_
    refine wl_skip rfl rfl ?_
    refine wl_skip rfl rfl ?_
    simp only [Option.some.injEq, Prod.mk.injEq] at h
    obtain rfl := h
    have h := hg64; clear hg64
    refine wl_run rfl ?_
    refine wl_pure (v := .bool false) tt_ok rfl rfl ?_
    simp only [Option.some.injEq, Prod.mk.injEq] at h
    obtain rfl := h
    have h := hg65; clear hg65
    refine wl_pure (v := .bool false) tt_ok rfl rfl ?_
    refine wl_pure tt_ok rfl rfl ?_
    refine wl_nil ?_
    refine wx_then ?_
    replace h := cf rfl h
    refine wc_cond_false rfl ?_
    refine wc_seq ?_
    refine wc_region ?_
    refine wl_pure tt_ok rfl rfl ?_
    refine wl_pure tt_ok rfl rfl ?_
    refine wl_pure tt_ok rfl rfl ?_
    refine wl_val (v := .int .i64 (j30_8.length : Int)) (val_len tt_ok rfl rfl j30_8N0) rfl ?_
    refine wl_pure (v := .int .i64 (IntKind.wrap .i64 ((max (0 : Int) (min p1 (4096 : Int))) - (j30_8.length : Int)))) tt_ok rfl rfl ?_
    refine wl_pure (v := .int .u64 (IntKind.wrap .u64 (IntKind.wrap .i64 ((max (0 : Int) (min p1 (4096 : Int))) - (j30_8.length : Int))))) tt_ok rfl rfl ?_
    refine wl_pure (v := .bool (decide ((IntKind.wrap .u64 (IntKind.wrap .i64 ((max (0 : Int) (min p1 (4096 : Int))) - (j30_8.length : Int)))) < v35))) tt_ok rfl rfl ?_
    refine wl_pure tt_ok rfl rfl ?_
    refine wl_nil ?_
    refine wx_then ?_
    refine wc_cond rfl (fun hc => ?_) (fun hc => ?_)
    · replace h := ct hc h
      refine wc_seq ?_
      refine wc_region ?_
      refine wl_pure tt_ok rfl rfl ?_
      refine wl_pure tt_ok rfl rfl ?_
      refine wl_nil ?_
      refine wx_then ?_
      refine wc_ret ?_
      refine wx_block_ret ?_
      refine wx_then_ret ?_
      refine wx_block_ret ?_
      refine wx_then_ret ?_
      obtain rfl := Option.some.inj h
      have h := hl30; clear hl30; try dsimp only [orE_l, orE_r] at h
      refine wx_then_ret ?_
      refine wx_block_ret ?_
      refine wx_then_ret ?_
      simp only [Option.some.injEq, Prod.mk.injEq] at h
      obtain ⟨rfl, rfl⟩ := h
      exact wx_spD tt_ok (.inl rfl) Try.results11 (Res.tmp rfl (Res.tmp rfl Res.nil)) ⟨none, 0, 0, [], rfl, Own.zero, rfl, rfl⟩ (fun F => by simp) (pSub (pNo pNil))
    replace h := cf hc h
    refine wc_skip ?_
    refine wx_block ?_
    refine wx_then ?_
    refine wc_seq ?_
    refine wc_region ?_
    refine wl_pure tt_ok rfl rfl ?_
    refine wl_pure tt_ok rfl rfl ?_
    refine wl_nil ?_
    refine wx_then ?_
    refine wc_block ?_
    replace h := bsome h; obtain ⟨l67_8, h, hl67⟩ := h
    refine wc_loop (fun m E L => ∃ (j67_8 : (List Int)) (j67_75 : Int) (j67_8a0 : Option Addr) (j67_8n0 : Nat) (j67_8c0 : Nat) (j67_8B0 : List Blk), m_input_Unpack_L66 F v35 v37 m j67_8 j67_75 = some l67_8 ∧ j67_8n0 = j67_8.length ∧ Own 35 1 j67_8a0 j67_8n0 j67_8c0 (flat (e1 .u8) j67_8) j67_8B0 ∧ E = [(1, .int .i64 (max (0 : Int) (min p1 (4096 : Int)))), (4, .slice none 0 0), (5, .int .i64 (0 : Int)), (6, .pointer (some ⟨b16_0, 0, none⟩)), (8, .slice j67_8a0 j67_8n0 j67_8c0), (11, .int .u8 v37), (30, .int .u64 v18), (31, .int .u64 j30_31), (74, .int .u64 v35), (75, .int .u64 j67_75)] ∧ L = (⟨b16_0, [.string ⟨o37_0.left.s.toArray⟩, .int .i64 o37_0.left.e], 72, (0, 0)⟩ :: (j67_8B0 ++ []))) F ⟨j30_8, (0 : Int), j30_8a0, j30_8n0, j30_8c0, j30_8B0, h, j30_8N0, j30_8V0, rfl, rfl⟩ (agree_cons rfl (agree_cons rfl (agree_cons rfl (agree_cons rfl (agree_cons rfl (agree_cons rfl (agree_cons rfl (agree_cons rfl (agree_cons rfl (agree_cons rfl agree_nil)))))))))) (pSub (pCons Sel.hc (pApp Sel.ha pNil))) ?_
    clear h
    rintro m67 _ _ ⟨j67_8, j67_75, j67_8a0, j67_8n0, j67_8c0, j67_8B0, h, j67_8N0, j67_8V0, rfl, rfl⟩
    rcases m67 with _ | m67
    · rw [m_input_Unpack_L66.eq_1] at h; cases h
    rw [m_input_Unpack_L66.eq_2] at h
    refine wc_seq ?_
    refine wc_region ?_
    refine wl_pure (v := .bool (decide (j67_75 < v35))) tt_ok rfl rfl ?_
    refine wl_nil ?_
    refine wx_then ?_
    refine wc_seq ?_
    refine wc_cond rfl (fun hc => ?_) (fun hc => ?_)
    · replace h := ct hc h
      refine wc_skip ?_
      refine wx_then ?_
      refine wc_seq ?_
      refine wc_block ?_
      refine wc_region ?_
      refine wl_pure tt_ok rfl rfl ?_
      refine wl_pure tt_ok rfl rfl ?_
      refine wl_chg (chg_bsv (enc := (e1 .u8)) (xs := ([v37] : List Int)) tt_ok rfl rfl rfl rfl rfl rfl rfl rfl (e1_len _)) rfl ?_
      rintro _ _ ⟨a79, n79_, c79, B79, rfl, N79, V79, rfl⟩
      replace h := bsome h; obtain ⟨v80, x80, h⟩ := h
      refine wl_chg (chg_app (enc := (e1 .u8)) (ys := ([v37] : List Int)) tt_ok rfl rfl rfl rfl rfl rfl j67_8N0 N79 j67_8V0 (Sel.sa (Sel.sc Sel.ha)) (Rds.of_vec V79) ⟨_, Sel.ha⟩ (e1_len _) (fun _ => rfl) rfl x80) rfl ?_
      rintro _ _ ⟨a80, n80_, c80, B80, rfl, N80, V80, rfl⟩
      refine wl_pure tt_ok rfl rfl ?_
      refine wl_nil ?_
      refine wx_block ?_
      refine wx_then ?_
      refine wc_region ?_
      refine wl_pure (v := .int .u64 (IntKind.wrap .u64 (j67_75 + (1 : Int)))) tt_ok rfl rfl ?_
      refine wl_pure tt_ok rfl rfl ?_
      refine wl_nil ?_
      exact wx_round m67 (Nat.lt_succ_self m67) ⟨v80, (IntKind.wrap .u64 (j67_75 + (1 : Int))), a80, n80_, c80, B80, h, N80, V80, rfl, rfl⟩ (agree_cons rfl (agree_cons rfl (agree_cons rfl (agree_cons rfl (agree_cons rfl (agree_cons rfl (agree_cons rfl (agree_cons rfl (agree_cons rfl (agree_cons rfl agree_nil)))))))))) (pSub (pCons (Sel.sa (Sel.sa Sel.hc)) (pApp Sel.ha pNil)))
    replace h := cf hc h
    refine wc_exit ?_
    refine wx_then_exit ?_
    simp only [Option.some.injEq] at h
    obtain rfl := h
    have h := hl67; clear hl67; try dsimp only [orE_l, orE_r] at h
    refine wx_then_exit ?_
    refine wx_block_exit ?_
    refine wx_block ?_
    refine wx_then ?_
    refine wc_region ?_
    refine wl_pure (v := .int .u64 (IntKind.wrap .u64 (j30_31 + (1 : Int)))) tt_ok rfl rfl ?_
    refine wl_pure tt_ok rfl rfl ?_
    refine wl_nil ?_
    exact wx_round m30 (Nat.lt_succ_self m30) ⟨j67_8, (IntKind.wrap .u64 (j30_31 + (1 : Int))), o37_0, j67_8a0, j67_8n0, j67_8c0, j67_8B0, h, j67_8N0, j67_8V0, rfl, rfl⟩ (agree_cons rfl (agree_cons rfl (agree_cons rfl (agree_cons rfl (agree_cons rfl (agree_cons rfl (agree_cons rfl agree_nil))))))) (pSub (pCons Sel.hc (pApp Sel.ha pNil)))
  replace h := cf hc h
  refine wc_exit ?_
  refine wx_then_exit ?_
  obtain rfl := Option.some.inj h
  have h := hl30; clear hl30; try dsimp only [orE_l, orE_r] at h
  refine wx_then_exit ?_
  refine wx_block_exit ?_
  refine wx_then ?_
  refine wc_seq ?_
  refine wc_seq ?_
  refine wc_region ?_
  refine wl_pure tt_ok rfl rfl ?_
  replace h := bsome h; obtain ⟨v84, x84, h⟩ := h
  refine wl_cq Try.call32 rfl rfl rfl (q_rd (k_codec_Reader_Rest x84) (pCons Sel.hc pNil) (fun _ _ => trivial)) rfl ?_
  refine wl_val (v := .bool (!(v84 == ([] : List UInt8)))) (val_sne tt_ok rfl rfl) rfl ?_
  refine wl_nil ?_
  refine wx_then ?_
  refine wc_cond rfl (fun hc => ?_) (fun hc => ?_)
  · replace h := ct hc h
    refine wc_seq ?_
    refine wc_region ?_
    refine wl_pure tt_ok rfl rfl ?_
    refine wl_pure tt_ok rfl rfl ?_
    refine wl_nil ?_
    refine wx_then ?_
    refine wc_ret ?_
    refine wx_then_ret ?_
    simp only [Option.some.injEq, Prod.mk.injEq] at h
    obtain ⟨rfl, rfl⟩ := h
    exact wx_spD tt_ok (.inl rfl) Try.results11 (Res.tmp rfl (Res.tmp rfl Res.nil)) ⟨none, 0, 0, [], rfl, Own.zero, rfl, rfl⟩ (fun F => by simp) (pSub (pNo pNil))
  replace h := cf hc h
  refine wc_skip ?_
  refine wx_then ?_
  refine wc_seq ?_
  refine wc_region ?_
  refine wl_pure tt_ok rfl rfl ?_
  refine wl_pure tt_ok rfl rfl ?_
  refine wl_pure tt_ok rfl rfl ?_
  refine wl_nil ?_
  refine wx_then ?_
  refine wc_ret ?_
  simp only [Option.some.injEq, Prod.mk.injEq] at h
  obtain ⟨rfl, rfl⟩ := h
  exact wx_spD tt_ok (.inl rfl) Try.results11 (Res.tmp rfl (Res.tmp rfl Res.nil)) ⟨j30_8a0, j30_8n0, j30_8c0, j30_8B0, j30_8N0, j30_8V0, rfl, rfl⟩ (fun F => by simp) (pSub (pApp (Sel.sc Sel.ha) pNil))

theorem k_input_runs {F : Nat} {p0 : (List Int)} {p0a0 : Option Addr} {p0n0 p0c0 : Nat} {r0 : (List T_input_run)} {r1 : Bool} (p0N0 : p0n0 = p0.length) (p0H0 : p0n0 ≤ p0c0) (h : m_input_runs F p0 = some (r0, r1)) :
    SpD Try.prog 36 [.slice p0a0 p0n0 p0c0] [] (fun w => Rds w (ids []) [] p0a0 (flat (e1 .u8) p0)) (fun v D => ∃ (r0a0 : Option Addr) (r0n0 r0c0 : Nat) (r0B0 : List Blk), r0n0 = r0.length ∧ Own 63 2 r0a0 r0n0 r0c0 (flat c_T_input_run r0) r0B0 ∧ v = .tuple #[.slice r0a0 r0n0 r0c0, .bool r1] ∧ D = fun F => (r0B0 ++ F)) := by
  unfold m_input_runs at h
  refine sp_of_wc Try.func36 rfl Try.ntmps36 rfl rfl (fun w0 hR => ?_)
  have p0S0 := hR
  refine wc_seq ?_
  refine wc_region ?_
  refine wl_pure tt_ok rfl rfl ?_
  refine wl_pure tt_ok rfl rfl ?_
  refine wl_nil ?_
  refine wx_then ?_
  refine wc_scope ?_
  refine wc_seq ?_
  refine wc_label ?_
  refine wx_then ?_
  refine wc_seq ?_
  refine wc_seq ?_
  refine wc_region ?_
  refine wl_pure tt_ok rfl rfl ?_
  refine wl_val (v := .int .i64 (p0.length : Int)) (val_len tt_ok rfl rfl p0N0) rfl ?_
  refine wl_pure tt_ok rfl rfl ?_
  refine wl_nil ?_
  refine wx_then ?_
  refine wc_block ?_
  replace h := bsome h; obtain ⟨o10, h, hl10⟩ := h
  refine wc_loop (fun m E L => ∃ (j10_2 : (List T_input_run)) (j10_9 : Int) (j10_2a0 : Option Addr) (j10_2n0 : Nat) (j10_2c0 : Nat) (j10_2B0 : List Blk), m_input_runs_L9 F p0 m j10_2 j10_9 = some o10 ∧ j10_2n0 = j10_2.length ∧ Own 63 2 j10_2a0 j10_2n0 j10_2c0 (flat c_T_input_run j10_2) j10_2B0 ∧ E = [(2, .slice j10_2a0 j10_2n0 j10_2c0), (3, .bool false), (7, .slice p0a0 p0n0 p0c0), (8, .int .i64 (p0.length : Int)), (9, .int .i64 j10_9)] ∧ L = (j10_2B0 ++ [])) F ⟨([] : List T_input_run), (0 : Int), none, 0, 0, [], h, rfl, Own.zero, rfl, rfl⟩ (agree_cons rfl (agree_cons rfl (agree_cons rfl (agree_cons rfl (agree_cons rfl agree_nil))))) (pSub (pNo pNil)) ?_
  clear h
  rintro m10 _ _ ⟨j10_2, j10_9, j10_2a0, j10_2n0, j10_2c0, j10_2B0, h, j10_2N0, j10_2V0, rfl, rfl⟩
  rcases m10 with _ | m10
  · rw [m_input_runs_L9.eq_1] at h; cases h
  rw [m_input_runs_L9.eq_2] at h
  refine wc_seq ?_
  refine wc_region ?_
  refine wl_pure (v := .bool (decide (j10_9 < (p0.length : Int)))) tt_ok rfl rfl ?_
  refine wl_nil ?_
  refine wx_then ?_
  refine wc_seq ?_
  refine wc_cond rfl (fun hc => ?_) (fun hc => ?_)
  · replace h := ct hc h
    refine wc_skip ?_
    refine wx_then ?_
    refine wc_seq ?_
    refine wc_block ?_
    refine wc_seq ?_
    refine wc_region ?_
    replace h := bsome h; obtain ⟨v11, x11, h⟩ := h
    refine wl_val (v := .pointer (some ((adOf p0a0).add (j10_9.toNat * 1 + 0)))) (val_ix (enc := (e1 .u8)) tt_ok rfl rfl rfl rfl p0N0 p0S0 (e1_len _) rfl x11) rfl ?_
    refine wl_val (v := .int .u8 v11) (val_le (enc := (e1 .u8)) (xs := p0) tt_ok rfl p0S0 rsub_nil (e1_len _) x11 rfl) rfl ?_
    refine wl_pure tt_ok rfl rfl ?_
    refine wl_nil ?_
    refine wx_then ?_
    refine wc_seq ?_
    refine wc_seq ?_
    refine wc_region ?_
    refine wl_pure tt_ok rfl rfl ?_
    replace h := bsome h; obtain ⟨v14, x14, h⟩ := h
    refine wl_cq Try.call18 rfl rfl rfl (q_pf (k_input_Legal x14) (fun _ _ => trivial)) rfl ?_
    refine wl_pure (v := .bool (!v14)) tt_ok rfl rfl ?_
    refine wl_nil ?_
    refine wx_then ?_
    refine wc_cond rfl (fun hc => ?_) (fun hc => ?_)
    · replace h := ct hc h
      refine wc_seq ?_
      refine wc_region ?_
      refine wl_pure tt_ok rfl rfl ?_
      refine wl_pure tt_ok rfl rfl ?_
      refine wl_nil ?_
      refine wx_then ?_
      refine wc_ret ?_
      refine wx_then_ret ?_
      refine wx_block_ret ?_
      refine wx_then_ret ?_
      obtain rfl := Option.some.inj h
      have h := hl10; clear hl10; try dsimp only [orE_l, orE_r] at h
      refine wx_then_ret ?_
      refine wx_block_ret ?_
      refine wx_then_ret ?_
      refine wx_scope_ret ?_
      simp only [Option.some.injEq, Prod.mk.injEq] at h
      obtain ⟨rfl, rfl⟩ := h
      exact wx_spD tt_ok (.inl rfl) Try.results36 (Res.tmp rfl (Res.tmp rfl Res.nil)) ⟨none, 0, 0, [], rfl, Own.zero, rfl, rfl⟩ (fun F => by simp) (pSub (pNo pNil))
    replace h := cf hc h
    refine wc_skip ?_
    refine wx_then ?_
    refine wc_seq ?_
    refine wc_seq ?_
    refine wc_region ?_
    refine wl_pure tt_ok rfl rfl ?_
    refine wl_val (v := .int .i64 (j10_2.length : Int)) (val_len tt_ok rfl rfl j10_2N0) rfl ?_
    refine wl_pure tt_ok rfl rfl ?_
    refine wl_nil ?_
    refine wx_then ?_
    refine wc_seq ?_
    refine wc_region ?_
    refine wl_pure tt_ok rfl rfl ?_
    refine wl_pure (v := .bool (decide ((0 : Int) < (j10_2.length : Int)))) tt_ok rfl rfl ?_
    refine wl_pure tt_ok rfl rfl ?_
    replace h := bsome h; obtain ⟨v29, h, hg29⟩ := h
    refine wl_split (t := 20) rfl (fun hc => ?_) (fun hc => ?_)
    · replace h := ct hc h
      refine wl_run rfl ?_
      refine wl_pure tt_ok rfl rfl ?_
      refine wl_run rfl ?_
      refine wl_pure tt_ok rfl rfl ?_
      refine wl_run rfl ?_
      refine wl_pure (v := .int .i64 (IntKind.wrap .i64 ((j10_2.length : Int) - (1 : Int)))) tt_ok rfl rfl ?_
      replace h := bsome h; obtain ⟨v24, x24, h⟩ := h
      refine wl_run rfl ?_
      refine wl_val (v := .pointer (some ((adOf j10_2a0).add ((IntKind.wrap .i64 ((j10_2.length : Int) - (1 : Int))).toNat * 2 + 0)))) (val_ix (enc := c_T_input_run) tt_ok rfl rfl rfl rfl j10_2N0 (Rds.of_vec j10_2V0) c_T_input_run_len rfl x24) rfl ?_
      refine wl_run rfl ?_
      refine wl_val (v := .pointer (some ((adOf j10_2a0).add ((IntKind.wrap .i64 ((j10_2.length : Int) - (1 : Int))).toNat * 2 + 1)))) (val_fa tt_ok rfl rfl rfl rfl rfl) rfl ?_
      refine wl_run rfl ?_
      refine wl_val (v := .int .u8 v24.i) (val_le (enc := c_T_input_run) (xs := j10_2) tt_ok rfl (Rds.of_vec j10_2V0) ⟨_, Sel.ha⟩ c_T_input_run_len x24 rfl) rfl ?_
      refine wl_run rfl ?_
      refine wl_pure tt_ok rfl rfl ?_
      refine wl_run rfl ?_
      refine wl_pure (v := .bool (v24.i == v11)) tt_ok rfl rfl ?_
      simp only [Option.some.injEq, Prod.mk.injEq] at h
      obtain rfl := h
      have h := hg29; clear hg29
      refine wl_pure (v := .bool (v24.i == v11)) tt_ok rfl rfl ?_
      refine wl_nil ?_
      refine wx_then ?_
      refine wc_cond rfl (fun hc => ?_) (fun hc => ?_)
      · replace h := ct hc h
        refine wc_seq ?_
        refine wc_region ?_
        refine wl_pure tt_ok rfl rfl ?_
        refine wl_pure tt_ok rfl rfl ?_
        refine wl_pure (v := .int .i64 (IntKind.wrap .i64 ((j10_2.length : Int) - (1 : Int)))) tt_ok rfl rfl ?_
        replace h := bsome h; obtain ⟨v33, x33, h⟩ := h
        refine wl_val (v := .pointer (some ((adOf j10_2a0).add ((IntKind.wrap .i64 ((j10_2.length : Int) - (1 : Int))).toNat * 2 + 0)))) (val_ix (enc := c_T_input_run) tt_ok rfl rfl rfl rfl j10_2N0 (Rds.of_vec j10_2V0) c_T_input_run_len rfl x33) rfl ?_
        refine wl_val (v := .pointer (some ((adOf j10_2a0).add ((IntKind.wrap .i64 ((j10_2.length : Int) - (1 : Int))).toNat * 2 + 0)))) (val_fa tt_ok rfl rfl rfl rfl rfl) rfl ?_
        refine wl_val (v := .int .i64 v33.n) (val_le (enc := c_T_input_run) (xs := j10_2) tt_ok rfl (Rds.of_vec j10_2V0) ⟨_, Sel.ha⟩ c_T_input_run_len x33 rfl) rfl ?_
        refine wl_pure (v := .int .i64 (IntKind.wrap .i64 (v33.n + (1 : Int)))) tt_ok rfl rfl ?_
        replace h := bsome h; obtain ⟨v37, x37, h⟩ := h
        refine wl_val (v := .pointer (some ((adOf j10_2a0).add ((IntKind.wrap .i64 ((j10_2.length : Int) - (1 : Int))).toNat * 2 + 0)))) (val_ix (enc := c_T_input_run) tt_ok rfl rfl rfl rfl j10_2N0 (Rds.of_vec j10_2V0) c_T_input_run_len rfl x37) rfl ?_
        refine wl_val (v := .pointer (some ((adOf j10_2a0).add ((IntKind.wrap .i64 ((j10_2.length : Int) - (1 : Int))).toNat * 2 + 0)))) (val_fa tt_ok rfl rfl rfl rfl rfl) rfl ?_
        refine wl_chg0 (chg_ste (enc := c_T_input_run) (y' := (T_input_run.mk (IntKind.wrap .i64 (v33.n + (1 : Int))) v37.i)) tt_ok rfl rfl rfl rfl rfl rfl j10_2N0 j10_2V0 Sel.ha c_T_input_run_len x37 rfl (by intro h; cases h)) ?_
        rintro _ _ ⟨Bs36_9, Ns36_9, Vs36_9, rfl⟩
        refine wl_nil ?_
        refine wx_then ?_
        refine wc_exit ?_
        refine wx_then_exit ?_
        refine wx_block_exit ?_
        refine wx_then ?_
        refine wc_region ?_
        refine wl_pure (v := .int .i64 (IntKind.wrap .i64 (j10_9 + (1 : Int)))) tt_ok rfl rfl ?_
        refine wl_pure tt_ok rfl rfl ?_
        refine wl_nil ?_
        exact wx_round m10 (Nat.lt_succ_self m10) ⟨(setI j10_2 (IntKind.wrap .i64 ((j10_2.length : Int) - (1 : Int))) (T_input_run.mk (IntKind.wrap .i64 (v33.n + (1 : Int))) v37.i)), (IntKind.wrap .i64 (j10_9 + (1 : Int))), j10_2a0, j10_2n0, j10_2c0, Bs36_9, h, Ns36_9, Vs36_9, rfl, rfl⟩ (agree_cons rfl (agree_cons rfl (agree_cons rfl (agree_cons rfl (agree_cons rfl agree_nil))))) (pSub (pApp Sel.ha pNil))
      replace h := cf hc h
      refine wc_skip ?_
      refine wx_then ?_
      refine wc_region ?_
      refine wl_pure tt_ok rfl rfl ?_
      refine wl_pure tt_ok rfl rfl ?_
      refine wl_pure (v := .agg #[.int .i64 (1 : Int), .int .u8 v11]) tt_ok rfl rfl ?_
      refine wl_chg (chg_bsv (enc := c_T_input_run) (xs := ([(T_input_run.mk (1 : Int) v11)] : List T_input_run)) tt_ok rfl rfl rfl rfl rfl rfl rfl rfl c_T_input_run_len) rfl ?_
      rintro _ _ ⟨a42, n42_, c42, B42, rfl, N42, V42, rfl⟩
      replace h := bsome h; obtain ⟨v43, x43, h⟩ := h
      refine wl_chg (chg_app (enc := c_T_input_run) (ys := ([(T_input_run.mk (1 : Int) v11)] : List T_input_run)) tt_ok rfl rfl rfl rfl rfl rfl j10_2N0 N42 j10_2V0 (Sel.sa Sel.ha) (Rds.of_vec V42) ⟨_, Sel.ha⟩ c_T_input_run_len (fun _ => rfl) rfl x43) rfl ?_
      rintro _ _ ⟨a43, n43_, c43, B43, rfl, N43, V43, rfl⟩
      refine wl_pure tt_ok rfl rfl ?_
      refine wl_nil ?_
      refine wx_block ?_
      refine wx_then ?_
      refine wc_region ?_
      refine wl_pure (v := .int .i64 (IntKind.wrap .i64 (j10_9 + (1 : Int)))) tt_ok rfl rfl ?_
      refine wl_pure tt_ok rfl rfl ?_
      refine wl_nil ?_
      exact wx_round m10 (Nat.lt_succ_self m10) ⟨v43, (IntKind.wrap .i64 (j10_9 + (1 : Int))), a43, n43_, c43, B43, h, N43, V43, rfl, rfl⟩ (agree_cons rfl (agree_cons rfl (agree_cons rfl (agree_cons rfl (agree_cons rfl agree_nil))))) (pSub (pApp Sel.ha pNil))
    replace h := cf hc h
    refine wl_skip rfl rfl ?_
    refine wl_skip rfl rfl ?_
    refine wl_skip rfl rfl ?_
    refine wl_skip rfl rfl ?_
    refine wl_skip rfl rfl ?_
    refine wl_skip rfl rfl ?_
    refine wl_skip rfl rfl ?_
    refine wl_skip rfl rfl ?_
    simp only [Option.some.injEq, Prod.mk.injEq] at h
    obtain rfl := h
    have h := hg29; clear hg29
    refine wl_pure (v := .bool false) tt_ok rfl rfl ?_
    refine wl_nil ?_
    refine wx_then ?_
    replace h := cf rfl h
    refine wc_cond_false rfl ?_
    refine wc_skip ?_
    refine wx_then ?_
    refine wc_region ?_
    refine wl_pure tt_ok rfl rfl ?_
    refine wl_pure tt_ok rfl rfl ?_
    refine wl_pure (v := .agg #[.int .i64 (1 : Int), .int .u8 v11]) tt_ok rfl rfl ?_
    refine wl_chg (chg_bsv (enc := c_T_input_run) (xs := ([(T_input_run.mk (1 : Int) v11)] : List T_input_run)) tt_ok rfl rfl rfl rfl rfl rfl rfl rfl c_T_input_run_len) rfl ?_
    rintro _ _ ⟨a42, n42_, c42, B42, rfl, N42, V42, rfl⟩
    replace h := bsome h; obtain ⟨v43, x43, h⟩ := h
    refine wl_chg (chg_app (enc := c_T_input_run) (ys := ([(T_input_run.mk (1 : Int) v11)] : List T_input_run)) tt_ok rfl rfl rfl rfl rfl rfl j10_2N0 N42 j10_2V0 (Sel.sa Sel.ha) (Rds.of_vec V42) ⟨_, Sel.ha⟩ c_T_input_run_len (fun _ => rfl) rfl x43) rfl ?_
    rintro _ _ ⟨a43, n43_, c43, B43, rfl, N43, V43, rfl⟩
    refine wl_pure tt_ok rfl rfl ?_
    refine wl_nil ?_
    refine wx_block ?_
    refine wx_then ?_
    refine wc_region ?_
    refine wl_pure (v := .int .i64 (IntKind.wrap .i64 (j10_9 + (1 : Int)))) tt_ok rfl rfl ?_
    refine wl_pure tt_ok rfl rfl ?_
    refine wl_nil ?_
    exact wx_round m10 (Nat.lt_succ_self m10) ⟨v43, (IntKind.wrap .i64 (j10_9 + (1 : Int))), a43, n43_, c43, B43, h, N43, V43, rfl, rfl⟩ (agree_cons rfl (agree_cons rfl (agree_cons rfl (agree_cons rfl (agree_cons rfl agree_nil))))) (pSub (pApp Sel.ha pNil))
  replace h := cf hc h
  refine wc_exit ?_
  refine wx_then_exit ?_
  obtain rfl := Option.some.inj h
  have h := hl10; clear hl10; try dsimp only [orE_l, orE_r] at h
  refine wx_then_exit ?_
  refine wx_block_exit ?_
  refine wx_then ?_
  refine wc_seq ?_
  refine wc_region ?_
  refine wl_pure tt_ok rfl rfl ?_
  refine wl_pure tt_ok rfl rfl ?_
  refine wl_pure tt_ok rfl rfl ?_
  refine wl_nil ?_
  refine wx_then ?_
  refine wc_ret ?_
  refine wx_scope_ret ?_
  simp only [Option.some.injEq, Prod.mk.injEq] at h
  obtain ⟨rfl, rfl⟩ := h
  exact wx_spD tt_ok (.inl rfl) Try.results36 (Res.tmp rfl (Res.tmp rfl Res.nil)) ⟨j10_2a0, j10_2n0, j10_2c0, j10_2B0, j10_2N0, j10_2V0, rfl, rfl⟩ (fun F => by simp) (pSub (pApp Sel.ha pNil))

theorem k_codec_put_uint8 {F : Nat} {p0 : T_codec_Writer} {p0b p0t : Nat} {p0a0 : Option Addr} {p0n0 p0c0 : Nat} {p0B0 : List Blk} {p1 : Int} {p2 : Int} {r0 : T_codec_Writer} (p0N0 : p0n0 = p0.b.length) (p0V0 : Own 5 1 p0a0 p0n0 p0c0 (flat (e1 .u8) p0.b) p0B0) (h : m_codec_put_uint8 F p0 p1 p2 = some r0) :
    SpD Try.prog 48 [.pointer (some ⟨p0b, 0, none⟩), .int .u8 p1, .int .i64 p2] (⟨p0b, [.slice p0a0 p0n0 p0c0], p0t, (0, 0)⟩ :: (p0B0 ++ [])) (fun w => True) (fun v D => ∃ (r0a0 : Option Addr) (r0n0 r0c0 : Nat) (r0B0 : List Blk), r0n0 = r0.b.length ∧ Own 5 1 r0a0 r0n0 r0c0 (flat (e1 .u8) r0.b) r0B0 ∧ v = .tuple #[] ∧ D = fun F => (⟨p0b, [.slice r0a0 r0n0 r0c0], p0t, (0, 0)⟩ :: (r0B0 ++ F))) := by
  unfold m_codec_put_uint8 at h
  refine sp_of_wc Try.func48 rfl Try.ntmps48 rfl rfl (fun w0 hR => ?_)
  refine wc_seq ?_
  refine wc_seq ?_
  refine wc_region ?_
  refine wl_pure tt_ok rfl rfl ?_
  refine wl_pure (v := .bool false) tt_ok rfl rfl ?_
  refine wl_nil ?_
  refine wx_then ?_
  refine wc_cond_false rfl ?_
  refine wc_skip ?_
  refine wx_then ?_
  refine wc_seq ?_
  refine wc_region ?_
  refine wl_pure tt_ok rfl rfl ?_
  refine wl_pure tt_ok rfl rfl ?_
  refine wl_nil ?_
  refine wx_then ?_
  refine wc_block ?_
  replace h := bsome h; obtain ⟨l10_p0_f0, h, hl10⟩ := h
  refine wc_loop (fun m E L => ∃ (j10_10 : Int) (j10_p0_f0 : (List Int)) (j10_p0_f0a0 : Option Addr) (j10_p0_f0n0 : Nat) (j10_p0_f0c0 : Nat) (j10_p0_f0B0 : List Blk), m_codec_put_uint8_L9 F p1 p2 m j10_10 j10_p0_f0 = some l10_p0_f0 ∧ j10_p0_f0n0 = j10_p0_f0.length ∧ Own 5 1 j10_p0_f0a0 j10_p0_f0n0 j10_p0_f0c0 (flat (e1 .u8) j10_p0_f0) j10_p0_f0B0 ∧ E = [(0, .pointer (some ⟨p0b, 0, none⟩)), (1, .int .u8 p1), (9, .int .i64 p2), (10, .int .i64 j10_10)] ∧ L = (⟨p0b, [.slice j10_p0_f0a0 j10_p0_f0n0 j10_p0_f0c0], p0t, (0, 0)⟩ :: (j10_p0_f0B0 ++ []))) F ⟨(0 : Int), p0.b, p0a0, p0n0, p0c0, p0B0, h, p0N0, p0V0, rfl, rfl⟩ (agree_cons rfl (agree_cons rfl (agree_cons rfl (agree_cons rfl agree_nil)))) (pSub (pCons Sel.hc (pApp Sel.ha pNil))) ?_
  clear h
  rintro m10 _ _ ⟨j10_10, j10_p0_f0, j10_p0_f0a0, j10_p0_f0n0, j10_p0_f0c0, j10_p0_f0B0, h, j10_p0_f0N0, j10_p0_f0V0, rfl, rfl⟩
  rcases m10 with _ | m10
  · rw [m_codec_put_uint8_L9.eq_1] at h; cases h
  rw [m_codec_put_uint8_L9.eq_2] at h
  refine wc_seq ?_
  refine wc_region ?_
  refine wl_pure (v := .bool (decide (j10_10 < p2))) tt_ok rfl rfl ?_
  refine wl_nil ?_
  refine wx_then ?_
  refine wc_seq ?_
  refine wc_cond rfl (fun hc => ?_) (fun hc => ?_)
  · replace h := ct hc h
    refine wc_skip ?_
    refine wx_then ?_
    refine wc_seq ?_
    refine wc_block ?_
    refine wc_seq ?_
    refine wc_region ?_
    refine wl_pure tt_ok rfl rfl ?_
    refine wl_pure tt_ok rfl rfl ?_
    refine wl_nil ?_
    refine wx_then ?_
    refine wc_k2 (Ls := (⟨p0b, [.slice j10_p0_f0a0 j10_p0_f0n0 j10_p0_f0c0], p0t, (0, 0)⟩ :: [])) [11, 12, 13, 14, 15] [13, 14, 15] [0, 0, 2, 6, 14, 0, 32, 0, 128, 480, 992, 2016, 4094, 8191, 16383, 32767] [0, 1, 2, 3, 4, 5, 6, 7, 8, 9, 10, 11, 12, 13, 14, 15] (by kernel_rfl) (by kernel_rfl) (by kernel_rfl) ?_
    refine k_val rfl rfl rfl (pSub (pCons Sel.hc pNil)) (stepV_ok tt_ok rfl) rfl ?_
    refine k_val rfl rfl rfl (pSub (pCons Sel.hc pNil)) (stepV_ok tt_ok rfl) rfl ?_
    refine k_val rfl rfl rfl (pSub (pCons Sel.hc pNil)) (stepV_ok tt_ok rfl) rfl ?_
    refine k_val (v := .pointer (some ⟨p0b, 0, none⟩)) rfl rfl rfl (pSub (pCons Sel.hc pNil)) (stepV_ok tt_ok rfl) rfl ?_
    refine k_val (v := .slice j10_p0_f0a0 j10_p0_f0n0 j10_p0_f0c0) rfl rfl rfl (pSub (pCons Sel.hc pNil)) (val_load tt_ok rfl (List.Mem.head _) rfl) rfl ?_
    refine k_val rfl rfl rfl (pSub (pCons Sel.hc pNil)) (stepV_ok tt_ok rfl) rfl ?_
    refine k_val (v := .int .u64 (IntKind.wrap .u64 p1)) rfl rfl rfl (pSub (pCons Sel.hc pNil)) (stepV_ok tt_ok rfl) rfl ?_
    refine k_val rfl rfl rfl (pSub (pCons Sel.hc pNil)) (stepV_ok tt_ok rfl) rfl ?_
    refine k_val (v := .int .i64 (IntKind.wrap .i64 ((8 : Int) * j10_10))) rfl rfl rfl (pSub (pCons Sel.hc pNil)) (stepV_ok tt_ok rfl) rfl ?_
    replace h := bsome h; obtain ⟨v22, x22, h⟩ := h
    refine k_val (v := .int .u64 v22) rfl rfl rfl (pSub (pCons Sel.hc pNil)) (val_shr rfl rfl x22) rfl ?_
    refine k_val (v := .int .u8 (IntKind.wrap .u8 v22)) rfl rfl rfl (pSub (pCons Sel.hc pNil)) (stepV_ok tt_ok rfl) rfl ?_
    refine k_chg rfl rfl rfl (chg_bsv (enc := (e1 .u8)) (xs := ([(IntKind.wrap .u8 v22)] : List Int)) tt_ok rfl rfl rfl rfl rfl rfl rfl rfl (e1_len _)) rfl (.inr (by rintro _ _ ⟨_, _, _, _, rfl, _, _, rfl⟩; exact ⟨_, (pCons (Sel.sa Sel.hc) pNil)⟩)) ?_
    rintro _ _ ⟨a24, n24_, c24, B24, rfl, N24, V24, rfl⟩
    replace h := bsome h; obtain ⟨v25, x25, h⟩ := h
    refine k_chg rfl rfl rfl (chg_app (enc := (e1 .u8)) (ys := ([(IntKind.wrap .u8 v22)] : List Int)) tt_ok rfl rfl rfl rfl rfl rfl j10_p0_f0N0 N24 j10_p0_f0V0 (Sel.sa (Sel.sc Sel.ha)) (Rds.of_vec V24) ⟨_, Sel.ha⟩ (e1_len _) (fun _ => rfl) rfl x25) rfl (.inr (by rintro _ _ ⟨_, _, _, _, rfl, _, _, rfl⟩; exact ⟨_, (pCons (Sel.sa (Sel.sa Sel.hc)) pNil)⟩)) ?_
    rintro _ _ ⟨a25, n25_, c25, B25, rfl, N25, V25, rfl⟩
    refine k_chg rfl rfl rfl (Chg.of_val (stepV_ok tt_ok rfl)) rfl (.inl rfl) ?_
    rintro _ _ ⟨rfl, rfl⟩
    refine k_chg rfl rfl rfl (Chg.of_val (v := .pointer (some ⟨p0b, 0, none⟩)) (stepV_ok tt_ok rfl)) rfl (.inl rfl) ?_
    rintro _ _ ⟨rfl, rfl⟩
    refine k_chg0 rfl rfl rfl (chg_store tt_ok rfl (Upd.right (Upd.right Upd.here)) rfl rfl rfl rfl rfl rfl) (.inl rfl) ?_
    rintro _ _ rfl
    refine k_end (by kernel_rfl) ?_
    refine wx_block ?_
    refine wx_then ?_
    refine wc_region ?_
    refine wl_pure (v := .int .i64 (IntKind.wrap .i64 (j10_10 + (1 : Int)))) tt_ok rfl rfl ?_
    refine wl_pure tt_ok rfl rfl ?_
    refine wl_nil ?_
    exact wx_round m10 (Nat.lt_succ_self m10) ⟨(IntKind.wrap .i64 (j10_10 + (1 : Int))), v25, a25, n25_, c25, B25, h, N25, V25, rfl, rfl⟩ (agree_cons rfl (agree_cons rfl (agree_cons rfl (agree_cons rfl agree_nil)))) (pSub (pCons (Sel.sa (Sel.sa Sel.hc)) (pApp Sel.ha pNil)))
  replace h := cf hc h
  refine wc_exit ?_
  refine wx_then_exit ?_
  simp only [Option.some.injEq] at h
  obtain rfl := h
  have h := hl10; clear hl10; try dsimp only [orE_l, orE_r] at h
  refine wx_then_exit ?_
  refine wx_block_exit ?_
  simp only [Option.some.injEq] at h
  obtain rfl := h
  exact wx_spD tt_ok (.inr rfl) Try.results48 Res.nil ⟨j10_p0_f0a0, j10_p0_f0n0, j10_p0_f0c0, j10_p0_f0B0, j10_p0_f0N0, j10_p0_f0V0, rfl, rfl⟩ (fun F => by simp) (pSub (pCons Sel.hc (pApp Sel.ha pNil)))

theorem k_codec_Writer_U8 {F : Nat} {p0 : T_codec_Writer} {p0b p0t : Nat} {p0a0 : Option Addr} {p0n0 p0c0 : Nat} {p0B0 : List Blk} {p1 : Int} {r0 : T_codec_Writer} (p0N0 : p0n0 = p0.b.length) (p0V0 : Own 5 1 p0a0 p0n0 p0c0 (flat (e1 .u8) p0.b) p0B0) (h : m_codec_Writer_U8 F p0 p1 = some r0) :
    SpD Try.prog 38 [.pointer (some ⟨p0b, 0, none⟩), .int .u8 p1] (⟨p0b, [.slice p0a0 p0n0 p0c0], p0t, (0, 0)⟩ :: (p0B0 ++ [])) (fun w => True) (fun v D => ∃ (r0a0 : Option Addr) (r0n0 r0c0 : Nat) (r0B0 : List Blk), r0n0 = r0.b.length ∧ Own 5 1 r0a0 r0n0 r0c0 (flat (e1 .u8) r0.b) r0B0 ∧ v = .tuple #[] ∧ D = fun F => (⟨p0b, [.slice r0a0 r0n0 r0c0], p0t, (0, 0)⟩ :: (r0B0 ++ F))) := by
  unfold m_codec_Writer_U8 at h
  refine sp_of_wc Try.func38 rfl Try.ntmps38 rfl rfl (fun w0 hR => ?_)
  refine wc_region ?_
  refine wl_pure tt_ok rfl rfl ?_
  refine wl_pure tt_ok rfl rfl ?_
  replace h := bsome h; obtain ⟨o6_0, x6, h⟩ := h
  refine wl_cs Try.call48 rfl rfl rfl (s_sp (k_codec_put_uint8 (p0 := p0) p0N0 p0V0 x6) (pCons Sel.hc (pApp Sel.ha pNil)) (fun _ _ => trivial)) rfl ?_
  rintro _ _ ⟨_, ⟨o6_0a0, o6_0n0, o6_0c0, o6_0B0, o6_0N0, o6_0V0, rfl, rfl⟩, rfl⟩
  refine wl_nil ?_
  simp only [Option.some.injEq] at h
  obtain rfl := h
  exact wx_spD tt_ok (.inr rfl) Try.results38 Res.nil ⟨o6_0a0, o6_0n0, o6_0c0, o6_0B0, o6_0N0, o6_0V0, rfl, rfl⟩ (fun F => by simp) (pSub (pCons Sel.hc (pApp Sel.ha pNil)))

theorem k_codec_Writer_Var {F : Nat} {p0 : T_codec_Writer} {p0b p0t : Nat} {p0a0 : Option Addr} {p0n0 p0c0 : Nat} {p0B0 : List Blk} {p1 : Int} {r0 : T_codec_Writer} (p0N0 : p0n0 = p0.b.length) (p0V0 : Own 5 1 p0a0 p0n0 p0c0 (flat (e1 .u8) p0.b) p0B0) (h : m_codec_Writer_Var F p0 p1 = some r0) :
    SpD Try.prog 37 [.pointer (some ⟨p0b, 0, none⟩), .int .u64 p1] (⟨p0b, [.slice p0a0 p0n0 p0c0], p0t, (0, 0)⟩ :: (p0B0 ++ [])) (fun w => True) (fun v D => ∃ (r0a0 : Option Addr) (r0n0 r0c0 : Nat) (r0B0 : List Blk), r0n0 = r0.b.length ∧ Own 5 1 r0a0 r0n0 r0c0 (flat (e1 .u8) r0.b) r0B0 ∧ v = .tuple #[] ∧ D = fun F => (⟨p0b, [.slice r0a0 r0n0 r0c0], p0t, (0, 0)⟩ :: (r0B0 ++ F))) := by
  unfold m_codec_Writer_Var at h
  refine sp_of_wc Try.func37 rfl Try.ntmps37 rfl rfl (fun w0 hR => ?_)
  refine wc_seq ?_
  refine wc_block ?_
  replace h := bsome h; obtain ⟨⟨l3_1, l3_p0_f0⟩, h, hl3⟩ := h; try dsimp only at hl3
  refine wc_loop (fun m E L => ∃ (j3_1 : Int) (j3_p0_f0 : (List Int)) (j3_p0_f0a0 : Option Addr) (j3_p0_f0n0 : Nat) (j3_p0_f0c0 : Nat) (j3_p0_f0B0 : List Blk), m_codec_Writer_Var_L2 F m j3_1 j3_p0_f0 = some (l3_1, l3_p0_f0) ∧ j3_p0_f0n0 = j3_p0_f0.length ∧ Own 5 1 j3_p0_f0a0 j3_p0_f0n0 j3_p0_f0c0 (flat (e1 .u8) j3_p0_f0) j3_p0_f0B0 ∧ E = [(0, .pointer (some ⟨p0b, 0, none⟩)), (1, .int .u64 j3_1)] ∧ L = (⟨p0b, [.slice j3_p0_f0a0 j3_p0_f0n0 j3_p0_f0c0], p0t, (0, 0)⟩ :: (j3_p0_f0B0 ++ []))) F ⟨p1, p0.b, p0a0, p0n0, p0c0, p0B0, h, p0N0, p0V0, rfl, rfl⟩ (agree_cons rfl (agree_cons rfl agree_nil)) (pSub (pCons Sel.hc (pApp Sel.ha pNil))) ?_
  clear h
  rintro m3 _ _ ⟨j3_1, j3_p0_f0, j3_p0_f0a0, j3_p0_f0n0, j3_p0_f0c0, j3_p0_f0B0, h, j3_p0_f0N0, j3_p0_f0V0, rfl, rfl⟩
  rcases m3 with _ | m3
  · rw [m_codec_Writer_Var_L2.eq_1] at h; cases h
  rw [m_codec_Writer_Var_L2.eq_2] at h
  refine wc_seq ?_
  refine wc_seq ?_
  refine wc_region ?_
  refine wl_pure tt_ok rfl rfl ?_
  refine wl_pure (v := .bool (decide ((127 : Int) < j3_1))) tt_ok rfl rfl ?_
  refine wl_nil ?_
  refine wx_then ?_
  refine wc_cond rfl (fun hc => ?_) (fun hc => ?_)
  · replace h := ct hc h
    refine wc_skip ?_
    refine wx_then ?_
    refine wc_block ?_
    refine wc_seq ?_
    refine wc_region ?_
    refine wl_pure tt_ok rfl rfl ?_
    refine wl_pure tt_ok rfl rfl ?_
    refine wl_pure (v := .int .u8 (IntKind.wrap .u8 j3_1)) tt_ok rfl rfl ?_
    refine wl_pure (v := .int .u8 (bits .or .u8 (IntKind.wrap .u8 j3_1) (128 : Int))) tt_ok rfl rfl ?_
    replace h := bsome h; obtain ⟨o10_0, x10, h⟩ := h
    refine wl_cs Try.call38 rfl rfl rfl (s_sp (k_codec_Writer_U8 (p0 := (T_codec_Writer.mk j3_p0_f0)) j3_p0_f0N0 j3_p0_f0V0 x10) (pCons Sel.hc (pApp Sel.ha pNil)) (fun _ _ => trivial)) rfl ?_
    rintro _ _ ⟨_, ⟨o10_0a0, o10_0n0, o10_0c0, o10_0B0, o10_0N0, o10_0V0, rfl, rfl⟩, rfl⟩
    refine wl_nil ?_
    refine wx_then ?_
    refine wc_region ?_
    refine wl_pure tt_ok rfl rfl ?_
    refine wl_pure (v := .int .u64 (j3_1 / 2 ^ (min 7 (IntKind.bits .u64)))) tt_ok rfl rfl ?_
    refine wl_pure tt_ok rfl rfl ?_
    refine wl_nil ?_
    refine wx_block ?_
    exact wx_round m3 (Nat.lt_succ_self m3) ⟨(j3_1 / 2 ^ (min 7 (IntKind.bits .u64))), o10_0.b, o10_0a0, o10_0n0, o10_0c0, o10_0B0, h, o10_0N0, o10_0V0, rfl, rfl⟩ (agree_cons rfl (agree_cons rfl agree_nil)) (pSub (pCons Sel.hc (pApp Sel.ha pNil)))
  replace h := cf hc h
  refine wc_exit ?_
  refine wx_then_exit ?_
  simp only [Option.some.injEq, Prod.mk.injEq] at h
  obtain ⟨rfl, rfl⟩ := h
  have h := hl3; clear hl3; try dsimp only [orE_l, orE_r] at h
  refine wx_then_exit ?_
  refine wx_block_exit ?_
  refine wx_then ?_
  refine wc_region ?_
  refine wl_pure tt_ok rfl rfl ?_
  refine wl_pure tt_ok rfl rfl ?_
  refine wl_pure (v := .int .u8 (IntKind.wrap .u8 j3_1)) tt_ok rfl rfl ?_
  replace h := bsome h; obtain ⟨o16_0, x16, h⟩ := h
  refine wl_cs Try.call38 rfl rfl rfl (s_sp (k_codec_Writer_U8 (p0 := (T_codec_Writer.mk j3_p0_f0)) j3_p0_f0N0 j3_p0_f0V0 x16) (pCons Sel.hc (pApp Sel.ha pNil)) (fun _ _ => trivial)) rfl ?_
  rintro _ _ ⟨_, ⟨o16_0a0, o16_0n0, o16_0c0, o16_0B0, o16_0N0, o16_0V0, rfl, rfl⟩, rfl⟩
  refine wl_nil ?_
  simp only [Option.some.injEq] at h
  obtain rfl := h
  exact wx_spD tt_ok (.inr rfl) Try.results37 Res.nil ⟨o16_0a0, o16_0n0, o16_0c0, o16_0B0, o16_0N0, o16_0V0, rfl, rfl⟩ (fun F => by simp) (pSub (pCons Sel.hc (pApp Sel.ha pNil)))

theorem k_codec_Writer_Bytes {F : Nat} {p0 : T_codec_Writer} {p0b p0t : Nat} {p0a0 : Option Addr} {p0n0 p0c0 : Nat} {p0B0 : List Blk} {r0 : (List UInt8)} (p0N0 : p0n0 = p0.b.length) (p0V0 : Own 5 1 p0a0 p0n0 p0c0 (flat (e1 .u8) p0.b) p0B0) (h : m_codec_Writer_Bytes F p0 = some r0) :
    Rd2 Try.prog 39 [.pointer (some ⟨p0b, 0, none⟩)] (⟨p0b, [.slice p0a0 p0n0 p0c0], p0t, (0, 0)⟩ :: (p0B0 ++ [])) (fun w => True) (.string ⟨r0.toArray⟩) := by
  unfold m_codec_Writer_Bytes at h
  refine sp_of_wc Try.func39 rfl Try.ntmps39 rfl rfl (fun w0 hR => ?_)
  refine wc_seq ?_
  refine wc_region ?_
  refine wl_pure tt_ok rfl rfl ?_
  refine wl_nil ?_
  refine wx_then ?_
  refine wc_seq ?_
  refine wc_seq ?_
  refine wc_region ?_
  refine wl_pure tt_ok rfl rfl ?_
  refine wl_pure (v := .bool false) tt_ok rfl rfl ?_
  refine wl_nil ?_
  refine wx_then ?_
  refine wc_cond_false rfl ?_
  refine wc_skip ?_
  refine wx_then ?_
  refine wc_seq ?_
  refine wc_region ?_
  refine wl_pure tt_ok rfl rfl ?_
  refine wl_pure tt_ok rfl rfl ?_
  refine wl_pure (v := .pointer (some ⟨p0b, 0, none⟩)) tt_ok rfl rfl ?_
  refine wl_val (v := .slice p0a0 p0n0 p0c0) (val_load tt_ok rfl (List.Mem.head _) rfl) rfl ?_
  refine wl_val (v := .string ⟨(toB p0.b).toArray⟩) (val_b2s (xs := p0.b) tt_ok rfl rfl rfl rfl p0N0 (Rds.of_vec p0V0) ⟨_, (Sel.sc Sel.ha)⟩) rfl ?_
  refine wl_pure tt_ok rfl rfl ?_
  refine wl_nil ?_
  refine wx_then ?_
  refine wc_ret ?_
  simp only [Option.some.injEq] at h
  obtain rfl := h
  exact wx_rd tt_ok (.inl rfl) Try.results39 (Res.tmp rfl Res.nil) (pSub (pCons Sel.hc (pApp Sel.ha pNil))) rfl

theorem k_input_Pack {F : Nat} {p0 : (List Int)} {p0a0 : Option Addr} {p0n0 p0c0 : Nat} {r0 : (List UInt8)} (p0N0 : p0n0 = p0.length) (p0H0 : p0n0 ≤ p0c0) (h : m_input_Pack F p0 = some r0) :
    Pf Try.prog 15 [.slice p0a0 p0n0 p0c0] (fun w => Rds w [] [] p0a0 (flat (e1 .u8) p0)) (.string ⟨r0.toArray⟩) := by
  unfold m_input_Pack at h
  refine pf_of_wc Try.func15 rfl Try.ntmps15 rfl rfl (fun w0 hR => ?_)
  have p0S0 := hR
  refine wc_seq ?_
  refine wc_region ?_
  refine wl_pure tt_ok rfl rfl ?_
  refine wl_nil ?_
  refine wx_then ?_
  refine wc_seq ?_
  refine wc_region ?_
  refine wl_pure tt_ok rfl rfl ?_
  replace h := bsome h; obtain ⟨⟨v10_0, v10_1⟩, x10, h⟩ := h; try dsimp only at h
  refine wl_cs Try.call36 rfl rfl rfl (s_sp (k_input_runs (p0 := p0) p0N0 p0H0 x10) pNil (Rds.call p0S0 pNil rsub_nil)) rfl ?_
  rintro _ _ ⟨_, ⟨v10_0a0, v10_0n0, v10_0c0, v10_0B0, v10_0N0, v10_0V0, rfl, rfl⟩, rfl⟩
  refine wl_pure tt_ok rfl rfl ?_
  refine wl_pure tt_ok rfl rfl ?_
  refine wl_pure tt_ok rfl rfl ?_
  refine wl_pure tt_ok rfl rfl ?_
  refine wl_pure tt_ok rfl rfl ?_
  refine wl_nil ?_
  refine wx_then ?_
  refine wc_seq ?_
  refine wc_seq ?_
  refine wc_region ?_
  refine wl_pure tt_ok rfl rfl ?_
  refine wl_pure (v := .bool (!v10_1)) tt_ok rfl rfl ?_
  refine wl_nil ?_
  refine wx_then ?_
  refine wc_cond rfl (fun hc => ?_) (fun hc => ?_)
  · replace h := ct hc h
    refine wc_seq ?_
    refine wc_region ?_
    refine wl_pure tt_ok rfl rfl ?_
    refine wl_nil ?_
    refine wx_then ?_
    refine wc_ret ?_
    refine wx_then_ret ?_
    simp only [Option.some.injEq] at h
    obtain rfl := h
    exact wx_pf tt_ok (.inl rfl) Try.results15 (Res.tmp rfl Res.nil) rfl
  replace h := cf hc h
  refine wc_skip ?_
  refine wx_then ?_
  refine wc_seq ?_
  refine wc_region ?_
  refine wl_alloc tt_ok rfl rfl (fun b5 => ?_)
  refine wl_nil ?_
  refine wx_then ?_
  refine wc_seq ?_
  refine wc_region ?_
  refine wl_pure tt_ok rfl rfl ?_
  refine wl_val (v := .int .i64 (v10_0.length : Int)) (val_len tt_ok rfl rfl v10_0N0) rfl ?_
  refine wl_pure (v := .int .u64 (IntKind.wrap .u64 (v10_0.length : Int))) tt_ok rfl rfl ?_
  replace h := bsome h; obtain ⟨o18_0, x18, h⟩ := h
  refine wl_cs Try.call37 rfl rfl rfl (s_sp (k_codec_Writer_Var (p0 := (T_codec_Writer.mk ([] : List Int))) rfl Own.zero x18) (pCons Sel.hc (pNo pNil)) (fun _ _ => trivial)) rfl ?_
  rintro _ _ ⟨_, ⟨o18_0a0, o18_0n0, o18_0c0, o18_0B0, o18_0N0, o18_0V0, rfl, rfl⟩, rfl⟩
  refine wl_nil ?_
  refine wx_then ?_
  refine wc_seq ?_
  refine wc_seq ?_
  refine wc_region ?_
  refine wl_pure tt_ok rfl rfl ?_
  refine wl_val (v := .int .i64 (v10_0.length : Int)) (val_len tt_ok rfl rfl v10_0N0) rfl ?_
  refine wl_pure tt_ok rfl rfl ?_
  refine wl_nil ?_
  refine wx_then ?_
  refine wc_block ?_
  replace h := bsome h; obtain ⟨l21_n5_f0, h, hl21⟩ := h
  refine wc_loop (fun m E L => ∃ (j21_21 : Int) (j21_n5_f0 : (List Int)) (j21_n5_f0a0 : Option Addr) (j21_n5_f0n0 : Nat) (j21_n5_f0c0 : Nat) (j21_n5_f0B0 : List Blk), m_input_Pack_L20 F v10_0 m j21_21 j21_n5_f0 = some l21_n5_f0 ∧ j21_n5_f0n0 = j21_n5_f0.length ∧ Own 5 1 j21_n5_f0a0 j21_n5_f0n0 j21_n5_f0c0 (flat (e1 .u8) j21_n5_f0) j21_n5_f0B0 ∧ E = [(2, .string ⟨([] : List UInt8).toArray⟩), (5, .pointer (some ⟨b5, 0, none⟩)), (19, .slice v10_0a0 v10_0n0 v10_0c0), (20, .int .i64 (v10_0.length : Int)), (21, .int .i64 j21_21)] ∧ L = (⟨b5, [.slice j21_n5_f0a0 j21_n5_f0n0 j21_n5_f0c0], 60, (0, 0)⟩ :: (j21_n5_f0B0 ++ (v10_0B0 ++ [])))) F ⟨(0 : Int), o18_0.b, o18_0a0, o18_0n0, o18_0c0, o18_0B0, h, o18_0N0, o18_0V0, rfl, rfl⟩ (agree_cons rfl (agree_cons rfl (agree_cons rfl (agree_cons rfl (agree_cons rfl agree_nil))))) (pSub (pCons Sel.hc (pApp Sel.ha (pApp Sel.ha pNil)))) ?_
  clear h
  rintro m21 _ _ ⟨j21_21, j21_n5_f0, j21_n5_f0a0, j21_n5_f0n0, j21_n5_f0c0, j21_n5_f0B0, h, j21_n5_f0N0, j21_n5_f0V0, rfl, rfl⟩
  rcases m21 with _ | m21
  · rw [m_input_Pack_L20.eq_1] at h; cases h
  rw [m_input_Pack_L20.eq_2] at h
  refine wc_seq ?_
  refine wc_region ?_
  refine wl_pure (v := .bool (decide (j21_21 < (v10_0.length : Int)))) tt_ok rfl rfl ?_
  refine wl_nil ?_
  refine wx_then ?_
  refine wc_seq ?_
  refine wc_cond rfl (fun hc => ?_) (fun hc => ?_)
  · replace h := ct hc h
    refine wc_skip ?_
    refine wx_then ?_
    refine wc_seq ?_
    refine wc_block ?_
    refine wc_seq ?_
    refine wc_region ?_
    replace h := bsome h; obtain ⟨v23, x23, h⟩ := h
    refine wl_val (v := .pointer (some ((adOf v10_0a0).add (j21_21.toNat * 2 + 0)))) (val_ix (enc := c_T_input_run) tt_ok rfl rfl rfl rfl v10_0N0 (Rds.of_vec v10_0V0) c_T_input_run_len rfl x23) rfl ?_
    refine wl_val (v := .agg #[.int .i64 v23.n, .int .u8 v23.i]) (val_le (enc := c_T_input_run) (xs := v10_0) tt_ok rfl (Rds.of_vec v10_0V0) ⟨_, (Sel.sc (Sel.sa Sel.ha))⟩ c_T_input_run_len x23 rfl) rfl ?_
    refine wl_alloc tt_ok rfl rfl (fun b7 => ?_)
    apply wl_store tt_ok; rfl; exact Upd.here; rfl; rfl; rfl; rfl; rfl; rfl
    refine wl_nil ?_
    refine wx_then ?_
    refine wc_seq ?_
    refine wc_region ?_
    refine wl_pure (v := .pointer (some ⟨b7, 0, none⟩)) tt_ok rfl rfl ?_
    refine wl_val (v := .int .i64 v23.n) (val_load tt_ok rfl (List.Mem.head _) rfl) rfl ?_
    refine wl_pure (v := .int .u64 (IntKind.wrap .u64 v23.n)) tt_ok rfl rfl ?_
    replace h := bsome h; obtain ⟨o28_0, x28, h⟩ := h
    refine wl_cs Try.call37 rfl rfl rfl (s_sp (k_codec_Writer_Var (p0 := (T_codec_Writer.mk j21_n5_f0)) j21_n5_f0N0 j21_n5_f0V0 x28) (pCons (Sel.sc Sel.hc) (pApp (Sel.sc Sel.ha) pNil)) (fun _ _ => trivial)) rfl ?_
    rintro _ _ ⟨_, ⟨o28_0a0, o28_0n0, o28_0c0, o28_0B0, o28_0N0, o28_0V0, rfl, rfl⟩, rfl⟩
    refine wl_nil ?_
    refine wx_then ?_
    refine wc_region ?_
    refine wl_pure (v := .pointer (some ⟨b7, 1, none⟩)) tt_ok rfl rfl ?_
    refine wl_val (v := .int .u8 v23.i) (val_load tt_ok rfl (List.Mem.tail _ (mR (List.Mem.head _))) rfl) rfl ?_
    replace h := bsome h; obtain ⟨o31_0, x31, h⟩ := h
    refine wl_cs Try.call38 rfl rfl rfl (s_sp (k_codec_Writer_U8 (p0 := o28_0) o28_0N0 o28_0V0 x31) (pCons Sel.hc (pApp Sel.ha pNil)) (fun _ _ => trivial)) rfl ?_
    rintro _ _ ⟨_, ⟨o31_0a0, o31_0n0, o31_0c0, o31_0B0, o31_0N0, o31_0V0, rfl, rfl⟩, rfl⟩
    refine wl_nil ?_
    refine wx_block ?_
    refine wx_then ?_
    refine wc_region ?_
    refine wl_pure (v := .int .i64 (IntKind.wrap .i64 (j21_21 + (1 : Int)))) tt_ok rfl rfl ?_
    refine wl_pure tt_ok rfl rfl ?_
    refine wl_nil ?_
    exact wx_round m21 (Nat.lt_succ_self m21) ⟨(IntKind.wrap .i64 (j21_21 + (1 : Int))), o31_0.b, o31_0a0, o31_0n0, o31_0c0, o31_0B0, h, o31_0N0, o31_0V0, rfl, rfl⟩ (agree_cons rfl (agree_cons rfl (agree_cons rfl (agree_cons rfl (agree_cons rfl agree_nil))))) (pSub (pCons Sel.hc (pApp Sel.ha (pApp (Sel.sc Sel.ha) pNil))))
  replace h := cf hc h
  refine wc_exit ?_
  refine wx_then_exit ?_
  simp only [Option.some.injEq] at h
  obtain rfl := h
  have h := hl21; clear hl21; try dsimp only [orE_l, orE_r] at h
  refine wx_then_exit ?_
  refine wx_block_exit ?_
  refine wx_then ?_
  refine wc_seq ?_
  refine wc_region ?_
  replace h := bsome h; obtain ⟨v33, x33, h⟩ := h
  refine wl_cq Try.call39 rfl rfl rfl (q_rd (k_codec_Writer_Bytes (p0 := (T_codec_Writer.mk j21_n5_f0)) j21_n5_f0N0 j21_n5_f0V0 x33) (pCons Sel.hc (pApp Sel.ha pNil)) (fun _ _ => trivial)) rfl ?_
  refine wl_pure tt_ok rfl rfl ?_
  refine wl_nil ?_
  refine wx_then ?_
  refine wc_ret ?_
  simp only [Option.some.injEq] at h
  obtain rfl := h
  exact wx_pf tt_ok (.inl rfl) Try.results15 (Res.tmp rfl Res.nil) rfl

theorem k_hindcastlaw06_fails {F : Nat} {p0 : (List UInt8)} {p1 : Int} {p2 : Int} {r0 : Bool} (h : m_hindcastlaw06_fails F p0 p1 p2 = some r0) :
    Pf Try.prog 27 [.string ⟨p0.toArray⟩, .int .i64 p1, .int .i64 p2] (fun w => True) (.bool r0) := by
  unfold m_hindcastlaw06_fails at h
  refine pf_of_wc Try.func27 rfl Try.ntmps27 rfl rfl (fun w0 hR => ?_)
  refine wc_seq ?_
  refine wc_region ?_
  refine wl_pure tt_ok rfl rfl ?_
  refine wl_nil ?_
  refine wx_then ?_
  refine wc_seq ?_
  refine wc_region ?_
  refine wl_pure tt_ok rfl rfl ?_
  refine wl_pure tt_ok rfl rfl ?_
  replace h := bsome h; obtain ⟨⟨v12_0, v12_1⟩, x12, h⟩ := h; try dsimp only at h
  refine wl_cs Try.call11 rfl rfl rfl (s_sp (k_input_Unpack x12) pNil (fun _ _ => trivial)) rfl ?_
  rintro _ _ ⟨_, ⟨v12_0a0, v12_0n0, v12_0c0, v12_0B0, v12_0N0, v12_0V0, rfl, rfl⟩, rfl⟩
  refine wl_pure tt_ok rfl rfl ?_
  refine wl_pure tt_ok rfl rfl ?_
  refine wl_pure tt_ok rfl rfl ?_
  refine wl_pure tt_ok rfl rfl ?_
  refine wl_pure tt_ok rfl rfl ?_
  refine wl_nil ?_
  refine wx_then ?_
  refine wc_seq ?_
  refine wc_region ?_
  refine wl_pure tt_ok rfl rfl ?_
  refine wl_val (v := .int .i64 (v12_0.length : Int)) (val_len tt_ok rfl rfl v12_0N0) rfl ?_
  refine wl_pure (v := .bool ((v12_0.length : Int) == (0 : Int))) tt_ok rfl rfl ?_
  refine wl_pure tt_ok rfl rfl ?_
  replace h := bsome h; obtain ⟨v22, h, hg22⟩ := h
  refine wl_split (t := 18) rfl (fun hc => ?_) (fun hc => ?_)
  · replace h := ct hc h
    refine wl_run rfl ?_
    refine wl_pure tt_ok rfl rfl ?_
    refine wl_run rfl ?_
    refine wl_pure tt_ok rfl rfl ?_
    refine wl_run rfl ?_
    refine wl_pure (v := .bool (v12_1 == p2)) tt_ok rfl rfl ?_
    simp only [Option.some.injEq, Prod.mk.injEq] at h
    obtain rfl := h
    have h := hg22; clear hg22
    refine wl_pure (v := .bool (v12_1 == p2)) tt_ok rfl rfl ?_
    refine wl_pure tt_ok rfl rfl ?_
    refine wl_nil ?_
    refine wx_then ?_
    refine wc_ret ?_
    simp only [Option.some.injEq] at h
    obtain rfl := h
    exact wx_pf tt_ok (.inl rfl) Try.results27 (Res.tmp rfl Res.nil) rfl
  replace h := cf hc h
  refine wl_skip rfl rfl ?_
  refine wl_skip rfl rfl ?_
  refine wl_skip rfl rfl ?_
  simp only [Option.some.injEq, Prod.mk.injEq] at h
  obtain rfl := h
  have h := hg22; clear hg22
  refine wl_pure (v := .bool false) tt_ok rfl rfl ?_
  refine wl_pure tt_ok rfl rfl ?_
  refine wl_nil ?_
  refine wx_then ?_
  refine wc_ret ?_
  simp only [Option.some.injEq] at h
  obtain rfl := h
  exact wx_pf tt_ok (.inl rfl) Try.results27 (Res.tmp rfl Res.nil) rfl

theorem k_hindcastlaw06_works {F : Nat} {r0 : Bool} (h : m_hindcastlaw06_works F = some r0) :
    Pf Try.prog 10 [] (fun w => True) (.bool r0) := by
  unfold m_hindcastlaw06_works at h
  refine pf_of_wc Try.func10 rfl Try.ntmps10 rfl rfl (fun w0 hR => ?_)
  refine wc_seq ?_
  refine wc_region ?_
  refine wl_pure tt_ok rfl rfl ?_
  refine wl_nil ?_
  refine wx_then ?_
  refine wc_seq ?_
  refine wc_region ?_
  replace h := bsome h; obtain ⟨⟨v6_0, v6_1⟩, x6, h⟩ := h; try dsimp only at h
  refine wl_cq Try.call16 rfl rfl rfl (q_pf (k_input_Dir x6) (fun _ _ => trivial)) rfl ?_
  refine wl_pure tt_ok rfl rfl ?_
  refine wl_pure tt_ok rfl rfl ?_
  refine wl_pure tt_ok rfl rfl ?_
  refine wl_pure tt_ok rfl rfl ?_
  refine wl_pure tt_ok rfl rfl ?_
  refine wl_nil ?_
  refine wx_then ?_
  refine wc_seq ?_
  refine wc_region ?_
  replace h := bsome h; obtain ⟨⟨v10_0, v10_1⟩, x10, h⟩ := h; try dsimp only at h
  refine wl_cs Try.call11 rfl rfl rfl (s_sp (k_input_Unpack x10) pNil (fun _ _ => trivial)) rfl ?_
  rintro _ _ ⟨_, ⟨v10_0a0, v10_0n0, v10_0c0, v10_0B0, v10_0N0, v10_0V0, rfl, rfl⟩, rfl⟩
  refine wl_pure tt_ok rfl rfl ?_
  refine wl_pure tt_ok rfl rfl ?_
  refine wl_pure tt_ok rfl rfl ?_
  refine wl_pure tt_ok rfl rfl ?_
  refine wl_pure tt_ok rfl rfl ?_
  refine wl_nil ?_
  refine wx_then ?_
  refine wc_seq ?_
  refine wc_region ?_
  refine wl_pure tt_ok rfl rfl ?_
  refine wl_pure (v := .bool (v6_0 == (1 : Int))) tt_ok rfl rfl ?_
  refine wl_pure tt_ok rfl rfl ?_
  replace h := bsome h; obtain ⟨v18, h, hg18⟩ := h
  refine wl_split (t := 15) rfl (fun hc => ?_) (fun hc => ?_)
  · replace h := ct hc h
    refine wl_run rfl ?_
    refine wl_pure tt_ok rfl rfl ?_
    refine wl_run rfl ?_
    refine wl_pure (v := .bool (v6_1 == (-1 : Int))) tt_ok rfl rfl ?_
    simp only [Option.some.injEq, Prod.mk.injEq] at h
    obtain rfl := h
    have h := hg18; clear hg18
    refine wl_pure (v := .bool (v6_1 == (-1 : Int))) tt_ok rfl rfl ?_
    refine wl_pure tt_ok rfl rfl ?_
    replace h := bsome h; obtain ⟨v23, h, hg23⟩ := h
    refine wl_split (t := 19) rfl (fun hc => ?_) (fun hc => ?_)
    · replace h := ct hc h
      refine wl_run rfl ?_
      refine wl_chg (chg_bsv (enc := (e1 .u8)) (xs := ([(5 : Int), (5 : Int), (5 : Int), (0 : Int)] : List Int)) tt_ok rfl rfl rfl rfl rfl rfl rfl rfl (e1_len _)) rfl ?_
      rintro _ _ ⟨a20, n20_, c20, B20, rfl, N20, V20, rfl⟩
      replace h := bsome h; obtain ⟨v21, x21, h⟩ := h
      refine wl_run rfl ?_
      refine wl_cq Try.call15 rfl rfl rfl (q_pf (k_input_Pack (p0 := ([(5 : Int), (5 : Int), (5 : Int), (0 : Int)] : List Int)) N20 (vec_cap V20) x21) (Rds.call (Rds.of_vec V20) pNil ⟨_, Sel.ha⟩)) rfl ?_
      refine wl_run rfl ?_
      refine wl_val (v := .bool (v21 == ([2, 3, 5, 1, 0] : List UInt8))) (val_seq tt_ok rfl rfl) rfl ?_
      simp only [Option.some.injEq, Prod.mk.injEq] at h
      obtain rfl := h
      have h := hg23; clear hg23
      refine wl_pure (v := .bool (v21 == ([2, 3, 5, 1, 0] : List UInt8))) tt_ok rfl rfl ?_
      refine wl_pure tt_ok rfl rfl ?_
      replace h := bsome h; obtain ⟨v28, h, hg28⟩ := h
      refine wl_split (t := 24) rfl (fun hc => ?_) (fun hc => ?_)
      · replace h := ct hc h
        refine wl_run rfl ?_
        refine wl_pure tt_ok rfl rfl ?_
        refine wl_run rfl ?_
        refine wl_val (v := .int .i64 (v10_0.length : Int)) (val_len tt_ok rfl rfl v10_0N0) rfl ?_
        refine wl_run rfl ?_
        refine wl_pure (v := .bool ((v10_0.length : Int) == (4 : Int))) tt_ok rfl rfl ?_
        simp only [Option.some.injEq, Prod.mk.injEq] at h
        obtain rfl := h
        have h := hg28; clear hg28
        refine wl_pure (v := .bool ((v10_0.length : Int) == (4 : Int))) tt_ok rfl rfl ?_
        refine wl_pure tt_ok rfl rfl ?_
        replace h := bsome h; obtain ⟨v32, h, hg32⟩ := h
        refine wl_split (t := 29) rfl (fun hc => ?_) (fun hc => ?_)
        · replace h := ct hc h
          refine wl_run rfl ?_
          refine wl_pure tt_ok rfl rfl ?_
          refine wl_run rfl ?_
          refine wl_pure (v := .bool (v10_1 == (0 : Int))) tt_ok rfl rfl ?_
          simp only [Option.some.injEq, Prod.mk.injEq] at h
          obtain rfl := h
          have h := hg32; clear hg32
          refine wl_pure (v := .bool (v10_1 == (0 : Int))) tt_ok rfl rfl ?_
          refine wl_pure tt_ok rfl rfl ?_
          replace h := bsome h; obtain ⟨v35, h, hg35⟩ := h
          refine wl_split (t := 33) rfl (fun hc => ?_) (fun hc => ?_)
          · replace h := ct hc h
            replace h := bsome h; obtain ⟨v34, x34, h⟩ := h
            refine wl_run rfl ?_
            refine wl_cq Try.call27 rfl rfl rfl (q_pf (k_hindcastlaw06_fails x34) (fun _ _ => trivial)) rfl ?_
            simp only [Option.some.injEq, Prod.mk.injEq] at h
            obtain rfl := h
            have h := hg35; clear hg35
            refine wl_pure (v := .bool v34) tt_ok rfl rfl ?_
            refine wl_pure tt_ok rfl rfl ?_
            refine wl_nil ?_
            refine wx_then ?_
            refine wc_ret ?_
            simp only [Option.some.injEq] at h
            obtain rfl := h
            exact wx_pf tt_ok (.inl rfl) Try.results10 (Res.tmp rfl Res.nil) rfl
          replace h := cf hc h
          refine wl_skip rfl rfl ?_
          simp only [Option.some.injEq, Prod.mk.injEq] at h
          obtain rfl := h
          have h := hg35; clear hg35
          refine wl_pure (v := .bool false) tt_ok rfl rfl ?_
          refine wl_pure tt_ok rfl rfl ?_
          refine wl_nil ?_
          refine wx_then ?_
          refine wc_ret ?_
          simp only [Option.some.injEq] at h
          obtain rfl := h
          exact wx_pf tt_ok (.inl rfl) Try.results10 (Res.tmp rfl Res.nil) rfl
        replace h := cf hc h
        refine wl_skip rfl rfl ?_
        refine wl_skip rfl rfl ?_
        simp only [Option.some.injEq, Prod.mk.injEq] at h
        obtain rfl := h
        have h := hg32; clear hg32
        refine wl_pure (v := .bool false) tt_ok rfl rfl ?_
        refine wl_pure tt_ok rfl rfl ?_
        replace h := bsome h; obtain ⟨v35, h, hg35⟩ := h
        replace h := cf rfl h
        refine wl_skip rfl rfl ?_
        simp only [Option.some.injEq, Prod.mk.injEq] at h
        obtain rfl := h
        have h := hg35; clear hg35
        refine wl_pure (v := .bool false) tt_ok rfl rfl ?_
        refine wl_pure tt_ok rfl rfl ?_
        refine wl_nil ?_
        refine wx_then ?_
        refine wc_ret ?_
        simp only [Option.some.injEq] at h
        obtain rfl := h
        exact wx_pf tt_ok (.inl rfl) Try.results10 (Res.tmp rfl Res.nil) rfl
      replace h := cf hc h
      refine wl_skip rfl rfl ?_
      refine wl_skip rfl rfl ?_
      refine wl_skip rfl rfl ?_
      simp only [Option.some.injEq, Prod.mk.injEq] at h
      obtain rfl := h
      have h := hg28; clear hg28
      refine wl_pure (v := .bool false) tt_ok rfl rfl ?_
      refine wl_pure tt_ok rfl rfl ?_
      replace h := bsome h; obtain ⟨v32, h, hg32⟩ := h
      replace h := cf rfl h
      refine wl_skip rfl rfl ?_
      refine wl_skip rfl rfl ?_
      simp only [Option.some.injEq, Prod.mk.injEq] at h
      obtain rfl := h
      have h := hg32; clear hg32
      refine wl_pure (v := .bool false) tt_ok rfl rfl ?_
      refine wl_pure tt_ok rfl rfl ?_
      replace h := bsome h; obtain ⟨v35, h, hg35⟩ := h
      replace h := cf rfl h
      refine wl_skip rfl rfl ?_
      simp only [Option.some.injEq, Prod.mk.injEq] at h
      obtain rfl := h
      have h := hg35; clear hg35
      refine wl_pure (v := .bool false) tt_ok rfl rfl ?_
      refine wl_pure tt_ok rfl rfl ?_
      refine wl_nil ?_
      refine wx_then ?_
      refine wc_ret ?_
      simp only [Option.some.injEq] at h
      obtain rfl := h
      exact wx_pf tt_ok (.inl rfl) Try.results10 (Res.tmp rfl Res.nil) rfl
    replace h := cf hc h
    refine wl_skip rfl rfl ?_
    refine wl_skip rfl rfl ?_
    refine wl_skip rfl rfl ?_
    simp only [Option.some.injEq, Prod.mk.injEq] at h
    obtain rfl := h
    have h := hg23; clear hg23
    refine wl_pure (v := .bool false) tt_ok rfl rfl ?_
    refine wl_pure tt_ok rfl rfl ?_
    replace h := bsome h; obtain ⟨v28, h, hg28⟩ := h
    replace h := cf rfl h
    refine wl_skip rfl rfl ?_
    refine wl_skip rfl rfl ?_
    refine wl_skip rfl rfl ?_
    simp only [Option.some.injEq, Prod.mk.injEq] at h
    obtain rfl := h
    have h := hg28; clear hg28
    refine wl_pure (v := .bool false) tt_ok rfl rfl ?_
    refine wl_pure tt_ok rfl rfl ?_
    replace h := bsome h; obtain ⟨v32, h, hg32⟩ := h
    replace h := cf rfl h
    refine wl_skip rfl rfl ?_
    refine wl_skip rfl rfl ?_
    simp only [Option.some.injEq, Prod.mk.injEq] at h
    obtain rfl := h
    have h := hg32; clear hg32
    refine wl_pure (v := .bool false) tt_ok rfl rfl ?_
    refine wl_pure tt_ok rfl rfl ?_
    replace h := bsome h; obtain ⟨v35, h, hg35⟩ := h
    replace h := cf rfl h
    refine wl_skip rfl rfl ?_
    simp only [Option.some.injEq, Prod.mk.injEq] at h
    obtain rfl := h
    have h := hg35; clear hg35
    refine wl_pure (v := .bool false) tt_ok rfl rfl ?_
    refine wl_pure tt_ok rfl rfl ?_
    refine wl_nil ?_
    refine wx_then ?_
    refine wc_ret ?_
    simp only [Option.some.injEq] at h
    obtain rfl := h
    exact wx_pf tt_ok (.inl rfl) Try.results10 (Res.tmp rfl Res.nil) rfl
  replace h := cf hc h
  refine wl_skip rfl rfl ?_
  refine wl_skip rfl rfl ?_
  simp only [Option.some.injEq, Prod.mk.injEq] at h
  obtain rfl := h
  have h := hg18; clear hg18
  refine wl_pure (v := .bool false) tt_ok rfl rfl ?_
  refine wl_pure tt_ok rfl rfl ?_
  replace h := bsome h; obtain ⟨v23, h, hg23⟩ := h
  replace h := cf rfl h
  refine wl_skip rfl rfl ?_
  refine wl_skip rfl rfl ?_
  refine wl_skip rfl rfl ?_
  simp only [Option.some.injEq, Prod.mk.injEq] at h
  obtain rfl := h
  have h := hg23; clear hg23
  refine wl_pure (v := .bool false) tt_ok rfl rfl ?_
  refine wl_pure tt_ok rfl rfl ?_
  replace h := bsome h; obtain ⟨v28, h, hg28⟩ := h
  replace h := cf rfl h
  refine wl_skip rfl rfl ?_
  refine wl_skip rfl rfl ?_
  refine wl_skip rfl rfl ?_
  simp only [Option.some.injEq, Prod.mk.injEq] at h
  obtain rfl := h
  have h := hg28; clear hg28
  refine wl_pure (v := .bool false) tt_ok rfl rfl ?_
  refine wl_pure tt_ok rfl rfl ?_
  replace h := bsome h; obtain ⟨v32, h, hg32⟩ := h
  replace h := cf rfl h
  refine wl_skip rfl rfl ?_
  refine wl_skip rfl rfl ?_
  simp only [Option.some.injEq, Prod.mk.injEq] at h
  obtain rfl := h
  have h := hg32; clear hg32
  refine wl_pure (v := .bool false) tt_ok rfl rfl ?_
  refine wl_pure tt_ok rfl rfl ?_
  replace h := bsome h; obtain ⟨v35, h, hg35⟩ := h
  replace h := cf rfl h
  refine wl_skip rfl rfl ?_
  simp only [Option.some.injEq, Prod.mk.injEq] at h
  obtain rfl := h
  have h := hg35; clear hg35
  refine wl_pure (v := .bool false) tt_ok rfl rfl ?_
  refine wl_pure tt_ok rfl rfl ?_
  refine wl_nil ?_
  refine wx_then ?_
  refine wc_ret ?_
  simp only [Option.some.injEq] at h
  obtain rfl := h
  exact wx_pf tt_ok (.inl rfl) Try.results10 (Res.tmp rfl Res.nil) rfl

theorem k_hindcastlaw06_legal {F : Nat} {p0 : (List Int)} {p0a0 : Option Addr} {p0n0 p0c0 : Nat} {r0 : (List Int)} (p0N0 : p0n0 = p0.length) (p0H0 : p0n0 ≤ p0c0) (h : m_hindcastlaw06_legal F p0 = some r0) :
    SpD Try.prog 14 [.slice p0a0 p0n0 p0c0] [] (fun w => Rds w (ids []) [] p0a0 (flat (e1 .u8) p0)) (fun v D => ∃ (r0a0 : Option Addr) (r0n0 r0c0 : Nat) (r0B0 : List Blk), r0n0 = r0.length ∧ Own 35 1 r0a0 r0n0 r0c0 (flat (e1 .u8) r0) r0B0 ∧ v = .slice r0a0 r0n0 r0c0 ∧ D = fun F => (r0B0 ++ F)) := by
  unfold m_hindcastlaw06_legal at h
  refine sp_of_wc Try.func14 rfl Try.ntmps14 rfl rfl (fun w0 hR => ?_)
  have p0S0 := hR
  refine wc_seq ?_
  refine wc_region ?_
  refine wl_pure tt_ok rfl rfl ?_
  refine wl_nil ?_
  refine wx_then ?_
  refine wc_seq ?_
  refine wc_region ?_
  refine wl_pure tt_ok rfl rfl ?_
  refine wl_nil ?_
  refine wx_then ?_
  refine wc_seq ?_
  refine wc_seq ?_
  refine wc_region ?_
  refine wl_pure tt_ok rfl rfl ?_
  refine wl_nil ?_
  refine wx_then ?_
  refine wc_block ?_
  replace h := bsome h; obtain ⟨l9_3, h, hl9⟩ := h
  refine wc_loop (fun m E L => ∃ (j9_3 : (List Int)) (j9_4 : Int) (j9_3a0 : Option Addr) (j9_3n0 : Nat) (j9_3c0 : Nat) (j9_3B0 : List Blk), m_hindcastlaw06_legal_L8 F p0 m j9_3 j9_4 = some l9_3 ∧ j9_3n0 = j9_3.length ∧ Own 35 1 j9_3a0 j9_3n0 j9_3c0 (flat (e1 .u8) j9_3) j9_3B0 ∧ E = [(0, .slice p0a0 p0n0 p0c0), (2, .slice none 0 0), (3, .slice j9_3a0 j9_3n0 j9_3c0), (4, .int .i64 j9_4)] ∧ L = (j9_3B0 ++ [])) F ⟨([] : List Int), (0 : Int), none, 0, 0, [], h, rfl, Own.zero, rfl, rfl⟩ (agree_cons rfl (agree_cons rfl (agree_cons rfl (agree_cons rfl agree_nil)))) (pSub (pNo pNil)) ?_
  clear h
  rintro m9 _ _ ⟨j9_3, j9_4, j9_3a0, j9_3n0, j9_3c0, j9_3B0, h, j9_3N0, j9_3V0, rfl, rfl⟩
  rcases m9 with _ | m9
  · rw [m_hindcastlaw06_legal_L8.eq_1] at h; cases h
  rw [m_hindcastlaw06_legal_L8.eq_2] at h
  refine wc_seq ?_
  refine wc_seq ?_
  refine wc_region ?_
  refine wl_pure tt_ok rfl rfl ?_
  refine wl_pure tt_ok rfl rfl ?_
  refine wl_val (v := .int .i64 (p0.length : Int)) (val_len tt_ok rfl rfl p0N0) rfl ?_
  refine wl_pure (v := .bool (decide (j9_4 < (p0.length : Int)))) tt_ok rfl rfl ?_
  refine wl_nil ?_
  refine wx_then ?_
  refine wc_cond rfl (fun hc => ?_) (fun hc => ?_)
  · replace h := ct hc h
    refine wc_skip ?_
    refine wx_then ?_
    refine wc_seq ?_
    refine wc_block ?_
    refine wc_region ?_
    refine wl_pure tt_ok rfl rfl ?_
    refine wl_pure tt_ok rfl rfl ?_
    refine wl_pure tt_ok rfl rfl ?_
    replace h := bsome h; obtain ⟨v14, x14, h⟩ := h
    refine wl_val (v := .pointer (some ((adOf p0a0).add (j9_4.toNat * 1 + 0)))) (val_ix (enc := (e1 .u8)) tt_ok rfl rfl rfl rfl p0N0 p0S0 (e1_len _) rfl x14) rfl ?_
    refine wl_val (v := .int .u8 v14) (val_le (enc := (e1 .u8)) (xs := p0) tt_ok rfl p0S0 rsub_nil (e1_len _) x14 rfl) rfl ?_
    refine wl_pure (v := .int .u8 (Int.tmod v14 64)) tt_ok rfl rfl ?_
    refine wl_chg (chg_bsv (enc := (e1 .u8)) (xs := ([(Int.tmod v14 64)] : List Int)) tt_ok rfl rfl rfl rfl rfl rfl rfl rfl (e1_len _)) rfl ?_
    rintro _ _ ⟨a17, n17_, c17, B17, rfl, N17, V17, rfl⟩
    replace h := bsome h; obtain ⟨v18, x18, h⟩ := h
    refine wl_chg (chg_app (enc := (e1 .u8)) (ys := ([(Int.tmod v14 64)] : List Int)) tt_ok rfl rfl rfl rfl rfl rfl j9_3N0 N17 j9_3V0 (Sel.sa Sel.ha) (Rds.of_vec V17) ⟨_, Sel.ha⟩ (e1_len _) (fun _ => rfl) rfl x18) rfl ?_
    rintro _ _ ⟨a18, n18_, c18, B18, rfl, N18, V18, rfl⟩
    refine wl_pure tt_ok rfl rfl ?_
    refine wl_nil ?_
    refine wx_block ?_
    refine wx_then ?_
    refine wc_region ?_
    refine wl_pure tt_ok rfl rfl ?_
    refine wl_pure (v := .int .i64 (IntKind.wrap .i64 (j9_4 + (1 : Int)))) tt_ok rfl rfl ?_
    refine wl_pure tt_ok rfl rfl ?_
    refine wl_nil ?_
    exact wx_round m9 (Nat.lt_succ_self m9) ⟨v18, (IntKind.wrap .i64 (j9_4 + (1 : Int))), a18, n18_, c18, B18, h, N18, V18, rfl, rfl⟩ (agree_cons rfl (agree_cons rfl (agree_cons rfl (agree_cons rfl agree_nil)))) (pSub (pApp Sel.ha pNil))
  replace h := cf hc h
  refine wc_exit ?_
  refine wx_then_exit ?_
  simp only [Option.some.injEq] at h
  obtain rfl := h
  have h := hl9; clear hl9; try dsimp only [orE_l, orE_r] at h
  refine wx_then_exit ?_
  refine wx_block_exit ?_
  refine wx_then ?_
  refine wc_seq ?_
  refine wc_region ?_
  refine wl_pure tt_ok rfl rfl ?_
  refine wl_pure tt_ok rfl rfl ?_
  refine wl_nil ?_
  refine wx_then ?_
  refine wc_ret ?_
  simp only [Option.some.injEq] at h
  obtain rfl := h
  exact wx_spD tt_ok (.inl rfl) Try.results14 (Res.tmp rfl Res.nil) ⟨j9_3a0, j9_3n0, j9_3c0, j9_3B0, j9_3N0, j9_3V0, rfl, rfl⟩ (fun F => by simp) (pSub (pApp Sel.ha pNil))

theorem k_hindcastref06_Same {F : Nat} {p0 : (List Int)} {p0a0 : Option Addr} {p0n0 p0c0 : Nat} {p1 : (List Int)} {p1a0 : Option Addr} {p1n0 p1c0 : Nat} {r0 : Bool} (p0N0 : p0n0 = p0.length) (p0H0 : p0n0 ≤ p0c0) (p1N0 : p1n0 = p1.length) (p1H0 : p1n0 ≤ p1c0) (h : m_hindcastref06_Same F p0 p1 = some r0) :
    Pf Try.prog 13 [.slice p0a0 p0n0 p0c0, .slice p1a0 p1n0 p1c0] (fun w => Rds w [] [] p0a0 (flat (e1 .u8) p0) ∧ Rds w [] [] p1a0 (flat (e1 .u8) p1)) (.bool r0) := by
  unfold m_hindcastref06_Same at h
  refine pf_of_wc Try.func13 rfl Try.ntmps13 rfl rfl (fun w0 hR => ?_)
  obtain ⟨p0S0, p1S0⟩ := hR
  refine wc_seq ?_
  refine wc_region ?_
  refine wl_pure tt_ok rfl rfl ?_
  refine wl_nil ?_
  refine wx_then ?_
  refine wc_seq ?_
  refine wc_seq ?_
  refine wc_region ?_
  refine wl_pure tt_ok rfl rfl ?_
  refine wl_val (v := .int .i64 (p0.length : Int)) (val_len tt_ok rfl rfl p0N0) rfl ?_
  refine wl_pure tt_ok rfl rfl ?_
  refine wl_val (v := .int .i64 (p1.length : Int)) (val_len tt_ok rfl rfl p1N0) rfl ?_
  refine wl_pure (v := .bool ((p0.length : Int) != (p1.length : Int))) tt_ok rfl rfl ?_
  refine wl_nil ?_
  refine wx_then ?_
  refine wc_cond rfl (fun hc => ?_) (fun hc => ?_)
  · replace h := ct hc h
    refine wc_seq ?_
    refine wc_region ?_
    refine wl_pure tt_ok rfl rfl ?_
    refine wl_nil ?_
    refine wx_then ?_
    refine wc_ret ?_
    refine wx_then_ret ?_
    simp only [Option.some.injEq] at h
    obtain rfl := h
    exact wx_pf tt_ok (.inl rfl) Try.results13 (Res.tmp rfl Res.nil) rfl
  replace h := cf hc h
  refine wc_skip ?_
  refine wx_then ?_
  refine wc_seq ?_
  refine wc_seq ?_
  refine wc_region ?_
  refine wl_pure tt_ok rfl rfl ?_
  refine wl_nil ?_
  refine wx_then ?_
  refine wc_block ?_
  replace h := bsome h; obtain ⟨o15, h, hl15⟩ := h
  refine wc_loop (fun m E L => ∃ (j15_5 : Int), m_hindcastref06_Same_L14 F p0 p1 m j15_5 = some o15 ∧ E = [(0, .slice p0a0 p0n0 p0c0), (1, .slice p1a0 p1n0 p1c0), (4, .bool false), (5, .int .i64 j15_5)] ∧ L = []) F ⟨(0 : Int), h, rfl, rfl⟩ (agree_cons rfl (agree_cons rfl (agree_cons rfl (agree_cons rfl agree_nil)))) (pSub pNil) ?_
  clear h
  rintro m15 _ _ ⟨j15_5, h, rfl, rfl⟩
  rcases m15 with _ | m15
  · rw [m_hindcastref06_Same_L14.eq_1] at h; cases h
  rw [m_hindcastref06_Same_L14.eq_2] at h
  refine wc_seq ?_
  refine wc_seq ?_
  refine wc_region ?_
  refine wl_pure tt_ok rfl rfl ?_
  refine wl_pure tt_ok rfl rfl ?_
  refine wl_val (v := .int .i64 (p0.length : Int)) (val_len tt_ok rfl rfl p0N0) rfl ?_
  refine wl_pure (v := .bool (decide (j15_5 < (p0.length : Int)))) tt_ok rfl rfl ?_
  refine wl_nil ?_
  refine wx_then ?_
  refine wc_cond rfl (fun hc => ?_) (fun hc => ?_)
  · replace h := ct hc h
    refine wc_skip ?_
    refine wx_then ?_
    refine wc_seq ?_
    refine wc_block ?_
    refine wc_seq ?_
    refine wc_quiet (by kernel_rfl) (by kernel_rfl) ?_
    refine wq_pure tt_ok rfl rfl ?_
    refine wq_pure tt_ok rfl rfl ?_
    replace h := bsome h; obtain ⟨v19, x19, h⟩ := h
    refine wq_val (v := .pointer (some ((adOf p0a0).add (j15_5.toNat * 1 + 0)))) (val_ix (enc := (e1 .u8)) tt_ok rfl rfl rfl rfl p0N0 p0S0 (e1_len _) rfl x19) rfl ?_
    refine wq_val (v := .int .u8 v19) (val_le (enc := (e1 .u8)) (xs := p0) tt_ok rfl p0S0 rsub_nil (e1_len _) x19 rfl) rfl ?_
    refine wq_pure tt_ok rfl rfl ?_
    refine wq_pure tt_ok rfl rfl ?_
    replace h := bsome h; obtain ⟨v23, x23, h⟩ := h
    refine wq_val (v := .pointer (some ((adOf p1a0).add (j15_5.toNat * 1 + 0)))) (val_ix (enc := (e1 .u8)) tt_ok rfl rfl rfl rfl p1N0 p1S0 (e1_len _) rfl x23) rfl ?_
    refine wq_val (v := .int .u8 v23) (val_le (enc := (e1 .u8)) (xs := p1) tt_ok rfl p1S0 rsub_nil (e1_len _) x23 rfl) rfl ?_
    refine wq_pure (v := .bool (v19 != v23)) tt_ok rfl rfl ?_
    refine wq_nil ?_
    refine wx_then ?_
    refine wc_cond rfl (fun hc => ?_) (fun hc => ?_)
    · replace h := ct hc h
      refine wc_seq ?_
      refine wc_region ?_
      refine wl_pure tt_ok rfl rfl ?_
      refine wl_nil ?_
      refine wx_then ?_
      refine wc_ret ?_
      refine wx_block_ret ?_
      refine wx_then_ret ?_
      obtain rfl := Option.some.inj h
      have h := hl15; clear hl15; try dsimp only [orE_l, orE_r] at h
      refine wx_then_ret ?_
      refine wx_block_ret ?_
      refine wx_then_ret ?_
      simp only [Option.some.injEq] at h
      obtain rfl := h
      exact wx_pf tt_ok (.inl rfl) Try.results13 (Res.tmp rfl Res.nil) rfl
    replace h := cf hc h
    refine wc_skip ?_
    refine wx_block ?_
    refine wx_then ?_
    refine wc_region ?_
    refine wl_pure tt_ok rfl rfl ?_
    refine wl_pure (v := .int .i64 (IntKind.wrap .i64 (j15_5 + (1 : Int)))) tt_ok rfl rfl ?_
    refine wl_pure tt_ok rfl rfl ?_
    refine wl_nil ?_
    exact wx_round m15 (Nat.lt_succ_self m15) ⟨(IntKind.wrap .i64 (j15_5 + (1 : Int))), h, rfl, rfl⟩ (agree_cons rfl (agree_cons rfl (agree_cons rfl (agree_cons rfl agree_nil)))) (pSub pNil)
  replace h := cf hc h
  refine wc_exit ?_
  refine wx_then_exit ?_
  obtain rfl := Option.some.inj h
  have h := hl15; clear hl15; try dsimp only [orE_l, orE_r] at h
  refine wx_then_exit ?_
  refine wx_block_exit ?_
  refine wx_then ?_
  refine wc_seq ?_
  refine wc_region ?_
  refine wl_pure tt_ok rfl rfl ?_
  refine wl_nil ?_
  refine wx_then ?_
  refine wc_ret ?_
  simp only [Option.some.injEq] at h
  obtain rfl := h
  exact wx_pf tt_ok (.inl rfl) Try.results13 (Res.tmp rfl Res.nil) rfl

theorem k_hindcastlaw06_InputBack {F : Nat} {p0 : (List Int)} {p0a0 : Option Addr} {p0n0 p0c0 : Nat} {p1 : Int} {p2 : Int} {r0 : Bool} (p0N0 : p0n0 = p0.length) (p0H0 : p0n0 ≤ p0c0) (h : m_hindcastlaw06_InputBack F p0 p1 p2 = some r0) :
    Pf Try.prog 4 [.slice p0a0 p0n0 p0c0, .int .u16 p1, .int .u16 p2] (fun w => Rds w [] [] p0a0 (flat (e1 .u8) p0)) (.bool r0) := by
  unfold m_hindcastlaw06_InputBack at h
  refine pf_of_wc Try.func4 rfl Try.ntmps4 rfl rfl (fun w0 hR => ?_)
  have p0S0 := hR
  refine wc_seq ?_
  refine wc_region ?_
  refine wl_pure tt_ok rfl rfl ?_
  refine wl_nil ?_
  refine wx_then ?_
  refine wc_seq ?_
  refine wc_seq ?_
  refine wc_region ?_
  refine wl_pure tt_ok rfl rfl ?_
  refine wl_val (v := .int .i64 (p0.length : Int)) (val_len tt_ok rfl rfl p0N0) rfl ?_
  refine wl_pure (v := .bool (decide ((1500 : Int) < (p0.length : Int)))) tt_ok rfl rfl ?_
  refine wl_nil ?_
  refine wx_then ?_
  refine wc_cond rfl (fun hc => ?_) (fun hc => ?_)
  · replace h := ct hc h
    refine wc_seq ?_
    refine wc_region ?_
    replace h := bsome h; obtain ⟨v18, x18, h⟩ := h
    refine wl_cq Try.call10 rfl rfl rfl (q_pf (k_hindcastlaw06_works x18) (fun _ _ => trivial)) rfl ?_
    refine wl_pure tt_ok rfl rfl ?_
    refine wl_nil ?_
    refine wx_then ?_
    refine wc_ret ?_
    refine wx_then_ret ?_
    simp only [Option.some.injEq] at h
    obtain rfl := h
    exact wx_pf tt_ok (.inl rfl) Try.results4 (Res.tmp rfl Res.nil) rfl
  replace h := cf hc h
  refine wc_skip ?_
  refine wx_then ?_
  refine wc_seq ?_
  refine wc_region ?_
  refine wl_pure tt_ok rfl rfl ?_
  replace h := bsome h; obtain ⟨v20, x20, h⟩ := h
  refine wl_cs Try.call14 rfl rfl rfl (s_sp (k_hindcastlaw06_legal (p0 := p0) p0N0 p0H0 x20) pNil (Rds.call p0S0 pNil rsub_nil)) rfl ?_
  rintro _ _ ⟨_, ⟨v20a0, v20n0, v20c0, v20B0, v20N0, v20V0, rfl, rfl⟩, rfl⟩
  refine wl_pure tt_ok rfl rfl ?_
  refine wl_nil ?_
  refine wx_then ?_
  refine wc_seq ?_
  refine wc_region ?_
  refine wl_pure tt_ok rfl rfl ?_
  replace h := bsome h; obtain ⟨v22, x22, h⟩ := h
  refine wl_cq Try.call15 rfl rfl rfl (q_pf (k_input_Pack (p0 := v20) v20N0 (vec_cap v20V0) x22) (Rds.call (Rds.of_vec v20V0) pNil ⟨_, Sel.ha⟩)) rfl ?_
  refine wl_pure tt_ok rfl rfl ?_
  refine wl_nil ?_
  refine wx_then ?_
  refine wc_seq ?_
  refine wc_seq ?_
  refine wc_region ?_
  refine wl_pure tt_ok rfl rfl ?_
  refine wl_val (v := .bool (v22 == ([] : List UInt8))) (val_seq tt_ok rfl rfl) rfl ?_
  refine wl_nil ?_
  refine wx_then ?_
  refine wc_cond rfl (fun hc => ?_) (fun hc => ?_)
  · replace h := ct hc h
    refine wc_seq ?_
    refine wc_region ?_
    refine wl_pure tt_ok rfl rfl ?_
    refine wl_nil ?_
    refine wx_then ?_
    refine wc_ret ?_
    refine wx_then_ret ?_
    simp only [Option.some.injEq] at h
    obtain rfl := h
    exact wx_pf tt_ok (.inl rfl) Try.results4 (Res.tmp rfl Res.nil) rfl
  replace h := cf hc h
  refine wc_skip ?_
  refine wx_then ?_
  refine wc_seq ?_
  refine wc_region ?_
  refine wl_pure tt_ok rfl rfl ?_
  refine wl_pure tt_ok rfl rfl ?_
  refine wl_val (v := .int .i64 (v20.length : Int)) (val_len tt_ok rfl rfl v20N0) rfl ?_
  replace h := bsome h; obtain ⟨⟨v29_0, v29_1⟩, x29, h⟩ := h; try dsimp only at h
  refine wl_cs Try.call11 rfl rfl rfl (s_sp (k_input_Unpack x29) pNil (fun _ _ => trivial)) rfl ?_
  rintro _ _ ⟨_, ⟨v29_0a0, v29_0n0, v29_0c0, v29_0B0, v29_0N0, v29_0V0, rfl, rfl⟩, rfl⟩
  refine wl_pure tt_ok rfl rfl ?_
  refine wl_pure tt_ok rfl rfl ?_
  refine wl_pure tt_ok rfl rfl ?_
  refine wl_pure tt_ok rfl rfl ?_
  refine wl_pure tt_ok rfl rfl ?_
  refine wl_nil ?_
  refine wx_then ?_
  refine wc_seq ?_
  refine wc_seq ?_
  refine wc_region ?_
  refine wl_pure tt_ok rfl rfl ?_
  refine wl_pure (v := .bool (v29_1 != (0 : Int))) tt_ok rfl rfl ?_
  refine wl_pure tt_ok rfl rfl ?_
  replace h := bsome h; obtain ⟨v39, h, hg39⟩ := h
  refine wl_split (t := 34) rfl (fun hc => ?_) (fun hc => ?_)
  · replace h := ct hc h
    refine wl_skip rfl rfl ?_
    refine wl_skip rfl rfl ?_
    refine wl_skip rfl rfl ?_
    refine wl_skip rfl rfl ?_
    simp only [Option.some.injEq, Prod.mk.injEq] at h
    obtain rfl := h
    have h := hg39; clear hg39
    refine wl_pure (v := .bool true) tt_ok rfl rfl ?_
    refine wl_nil ?_
    refine wx_then ?_
    replace h := ct rfl h
    refine wc_cond_true rfl ?_
    refine wc_seq ?_
    refine wc_region ?_
    refine wl_pure tt_ok rfl rfl ?_
    refine wl_nil ?_
    refine wx_then ?_
    refine wc_ret ?_
    refine wx_then_ret ?_
    simp only [Option.some.injEq] at h
    obtain rfl := h
    exact wx_pf tt_ok (.inl rfl) Try.results4 (Res.tmp rfl Res.nil) rfl
  replace h := cf hc h
  refine wl_run rfl ?_
  refine wl_pure tt_ok rfl rfl ?_
  refine wl_run rfl ?_
  refine wl_pure tt_ok rfl rfl ?_
  replace h := bsome h; obtain ⟨v37, x37, h⟩ := h
  refine wl_run rfl ?_
  refine wl_cq Try.call13 rfl rfl rfl (q_pf (k_hindcastref06_Same (p0 := v29_0) (p1 := v20) v29_0N0 (vec_cap v29_0V0) v20N0 (vec_cap v20V0) x37) (fun w hI => ⟨(Rds.call (Rds.of_vec v29_0V0) pNil ⟨_, Sel.ha⟩) w hI, (Rds.call (Rds.of_vec v20V0) pNil ⟨_, (Sel.sa Sel.ha)⟩) w hI⟩)) rfl ?_
  refine wl_run rfl ?_
  refine wl_pure (v := .bool (!v37)) tt_ok rfl rfl ?_
  simp only [Option.some.injEq, Prod.mk.injEq] at h
  obtain rfl := h
  have h := hg39; clear hg39
  refine wl_pure (v := .bool (!v37)) tt_ok rfl rfl ?_
  refine wl_nil ?_
  refine wx_then ?_
  refine wc_cond rfl (fun hc => ?_) (fun hc => ?_)
  · replace h := ct hc h
    refine wc_seq ?_
    refine wc_region ?_
    refine wl_pure tt_ok rfl rfl ?_
    refine wl_nil ?_
    refine wx_then ?_
    refine wc_ret ?_
    refine wx_then_ret ?_
    simp only [Option.some.injEq] at h
    obtain rfl := h
    exact wx_pf tt_ok (.inl rfl) Try.results4 (Res.tmp rfl Res.nil) rfl
  replace h := cf hc h
  refine wc_skip ?_
  refine wx_then ?_
  refine wc_seq ?_
  refine wc_region ?_
  refine wl_pure tt_ok rfl rfl ?_
  refine wl_pure tt_ok rfl rfl ?_
  refine wl_pure (v := .int .i64 (IntKind.wrap .i64 p1)) tt_ok rfl rfl ?_
  replace h := bsome h; obtain ⟨⟨v44_0, v44_1⟩, x44, h⟩ := h; try dsimp only at h
  refine wl_cs Try.call11 rfl rfl rfl (s_sp (k_input_Unpack x44) pNil (fun _ _ => trivial)) rfl ?_
  rintro _ _ ⟨_, ⟨v44_0a0, v44_0n0, v44_0c0, v44_0B0, v44_0N0, v44_0V0, rfl, rfl⟩, rfl⟩
  refine wl_pure tt_ok rfl rfl ?_
  refine wl_pure tt_ok rfl rfl ?_
  refine wl_pure tt_ok rfl rfl ?_
  refine wl_pure tt_ok rfl rfl ?_
  refine wl_pure tt_ok rfl rfl ?_
  refine wl_nil ?_
  refine wx_then ?_
  refine wc_seq ?_
  refine wc_seq ?_
  refine wc_region ?_
  refine wl_pure tt_ok rfl rfl ?_
  refine wl_pure (v := .int .i64 (IntKind.wrap .i64 p1)) tt_ok rfl rfl ?_
  refine wl_pure tt_ok rfl rfl ?_
  refine wl_val (v := .int .i64 (v20.length : Int)) (val_len tt_ok rfl rfl v20N0) rfl ?_
  refine wl_pure (v := .bool (decide ((v20.length : Int) ≤ (IntKind.wrap .i64 p1)))) tt_ok rfl rfl ?_
  refine wl_nil ?_
  refine wx_then ?_
  refine wc_cond rfl (fun hc => ?_) (fun hc => ?_)
  · replace h := ct hc h
    refine wc_seq ?_
    refine wc_region ?_
    refine wl_pure tt_ok rfl rfl ?_
    refine wl_pure (v := .bool (v44_1 != (0 : Int))) tt_ok rfl rfl ?_
    refine wl_pure tt_ok rfl rfl ?_
    replace h := bsome h; obtain ⟨v59, h, hg59⟩ := h
    refine wl_split (t := 54) rfl (fun hc => ?_) (fun hc => ?_)
    · replace h := ct hc h
      refine wl_skip rfl rfl ?_
      refine wl_skip rfl rfl ?_
      refine wl_skip rfl rfl ?_
      refine wl_skip rfl rfl ?_
      simp only [Option.some.injEq, Prod.mk.injEq] at h
      obtain rfl := h
      have h := hg59; clear hg59
      refine wl_pure (v := .bool true) tt_ok rfl rfl ?_
      refine wl_nil ?_
      refine wx_then ?_
      replace h := ct rfl h
      refine wc_cond_true rfl ?_
      refine wc_seq ?_
      refine wc_region ?_
      refine wl_pure tt_ok rfl rfl ?_
      refine wl_nil ?_
      refine wx_then ?_
      refine wc_ret ?_
      refine wx_then_ret ?_
      simp only [Option.some.injEq] at h
      obtain rfl := h
      exact wx_pf tt_ok (.inl rfl) Try.results4 (Res.tmp rfl Res.nil) rfl
    replace h := cf hc h
    refine wl_run rfl ?_
    refine wl_pure tt_ok rfl rfl ?_
    refine wl_run rfl ?_
    refine wl_pure tt_ok rfl rfl ?_
    replace h := bsome h; obtain ⟨v57, x57, h⟩ := h
    refine wl_run rfl ?_
    refine wl_cq Try.call13 rfl rfl rfl (q_pf (k_hindcastref06_Same (p0 := v44_0) (p1 := v20) v44_0N0 (vec_cap v44_0V0) v20N0 (vec_cap v20V0) x57) (fun w hI => ⟨(Rds.call (Rds.of_vec v44_0V0) pNil ⟨_, Sel.ha⟩) w hI, (Rds.call (Rds.of_vec v20V0) pNil ⟨_, (Sel.sa (Sel.sa Sel.ha))⟩) w hI⟩)) rfl ?_
    refine wl_run rfl ?_
    refine wl_pure (v := .bool (!v57)) tt_ok rfl rfl ?_
    simp only [Option.some.injEq, Prod.mk.injEq] at h
    obtain rfl := h
    have h := hg59; clear hg59
    refine wl_pure (v := .bool (!v57)) tt_ok rfl rfl ?_
    refine wl_nil ?_
    refine wx_then ?_
    refine wc_cond rfl (fun hc => ?_) (fun hc => ?_)
    · replace h := ct hc h
      refine wc_seq ?_
      refine wc_region ?_
      refine wl_pure tt_ok rfl rfl ?_
      refine wl_nil ?_
      refine wx_then ?_
      refine wc_ret ?_
      refine wx_then_ret ?_
      simp only [Option.some.injEq] at h
      obtain rfl := h
      exact wx_pf tt_ok (.inl rfl) Try.results4 (Res.tmp rfl Res.nil) rfl
    replace h := cf hc h
    refine wc_skip ?_
    refine wx_then ?_
    refine wc_seq ?_
    refine wc_region ?_
    refine wl_pure tt_ok rfl rfl ?_
    refine wl_pure tt_ok rfl rfl ?_
    refine wl_pure (v := .int .i64 (IntKind.wrap .i64 p2)) tt_ok rfl rfl ?_
    refine wl_pure tt_ok rfl rfl ?_
    refine wl_pure (v := .int .i64 (v22.length : Int)) tt_ok rfl rfl ?_
    replace h := bsome h; obtain ⟨v73, x73, h⟩ := h
    refine wl_val (v := .int .i64 v73) (val_rem rfl rfl x73) rfl ?_
    replace h := bsome h; obtain ⟨v74, x74, h⟩ := h
    refine wl_val (v := .string ⟨v74.toArray⟩) (val_ss tt_ok rfl rfl (.inl ⟨rfl, rfl⟩) (.inr ⟨_, _, rfl, rfl⟩) x74) rfl ?_
    replace h := bsome h; obtain ⟨⟨v75_0, v75_1⟩, x75, h⟩ := h; try dsimp only at h
    refine wl_cs Try.call11 rfl rfl rfl (s_sp (k_input_Unpack x75) pNil (fun _ _ => trivial)) rfl ?_
    rintro _ _ ⟨_, ⟨v75_0a0, v75_0n0, v75_0c0, v75_0B0, v75_0N0, v75_0V0, rfl, rfl⟩, rfl⟩
    refine wl_pure tt_ok rfl rfl ?_
    refine wl_pure tt_ok rfl rfl ?_
    refine wl_pure tt_ok rfl rfl ?_
    refine wl_pure tt_ok rfl rfl ?_
    refine wl_pure tt_ok rfl rfl ?_
    refine wl_nil ?_
    refine wx_then ?_
    refine wc_seq ?_
    refine wc_region ?_
    refine wl_pure tt_ok rfl rfl ?_
    refine wl_pure (v := .bool (v75_1 == (10 : Int))) tt_ok rfl rfl ?_
    refine wl_pure tt_ok rfl rfl ?_
    replace h := bsome h; obtain ⟨v84, h, hg84⟩ := h
    refine wl_split (t := 80) rfl (fun hc => ?_) (fun hc => ?_)
    · replace h := ct hc h
      refine wl_run rfl ?_
      refine wl_pure tt_ok rfl rfl ?_
      refine wl_run rfl ?_
      refine wl_val (v := .int .i64 (v75_0.length : Int)) (val_len tt_ok rfl rfl v75_0N0) rfl ?_
      refine wl_run rfl ?_
      refine wl_pure (v := .bool ((v75_0.length : Int) == (0 : Int))) tt_ok rfl rfl ?_
      simp only [Option.some.injEq, Prod.mk.injEq] at h
      obtain rfl := h
      have h := hg84; clear hg84
      refine wl_pure (v := .bool ((v75_0.length : Int) == (0 : Int))) tt_ok rfl rfl ?_
      refine wl_pure tt_ok rfl rfl ?_
      replace h := bsome h; obtain ⟨v87, h, hg87⟩ := h
      refine wl_split (t := 85) rfl (fun hc => ?_) (fun hc => ?_)
      · replace h := ct hc h
        replace h := bsome h; obtain ⟨v86, x86, h⟩ := h
        refine wl_run rfl ?_
        refine wl_cq Try.call10 rfl rfl rfl (q_pf (k_hindcastlaw06_works x86) (fun _ _ => trivial)) rfl ?_
        simp only [Option.some.injEq, Prod.mk.injEq] at h
        obtain rfl := h
        have h := hg87; clear hg87
        refine wl_pure (v := .bool v86) tt_ok rfl rfl ?_
        refine wl_pure tt_ok rfl rfl ?_
        refine wl_nil ?_
        refine wx_then ?_
        refine wc_ret ?_
        simp only [Option.some.injEq] at h
        obtain rfl := h
        exact wx_pf tt_ok (.inl rfl) Try.results4 (Res.tmp rfl Res.nil) rfl
      replace h := cf hc h
      refine wl_skip rfl rfl ?_
      simp only [Option.some.injEq, Prod.mk.injEq] at h
      obtain rfl := h
      have h := hg87; clear hg87
      refine wl_pure (v := .bool false) tt_ok rfl rfl ?_
      refine wl_pure tt_ok rfl rfl ?_
      refine wl_nil ?_
      refine wx_then ?_
      refine wc_ret ?_
      simp only [Option.some.injEq] at h
      obtain rfl := h
      exact wx_pf tt_ok (.inl rfl) Try.results4 (Res.tmp rfl Res.nil) rfl
    replace h := cf hc h
    refine wl_skip rfl rfl ?_
    refine wl_skip rfl rfl ?_
    refine wl_skip rfl rfl ?_
    simp only [Option.some.injEq, Prod.mk.injEq] at h
    obtain rfl := h
    have h := hg84; clear hg84
    refine wl_pure (v := .bool false) tt_ok rfl rfl ?_
    refine wl_pure tt_ok rfl rfl ?_
    replace h := bsome h; obtain ⟨v87, h, hg87⟩ := h
    replace h := cf rfl h
    refine wl_skip rfl rfl ?_
    simp only [Option.some.injEq, Prod.mk.injEq] at h
    obtain rfl := h
    have h := hg87; clear hg87
    refine wl_pure (v := .bool false) tt_ok rfl rfl ?_
    refine wl_pure tt_ok rfl rfl ?_
    refine wl_nil ?_
    refine wx_then ?_
    refine wc_ret ?_
    simp only [Option.some.injEq] at h
    obtain rfl := h
    exact wx_pf tt_ok (.inl rfl) Try.results4 (Res.tmp rfl Res.nil) rfl
  replace h := cf hc h
  refine wc_seq ?_
  refine wc_region ?_
  refine wl_pure tt_ok rfl rfl ?_
  refine wl_pure (v := .bool (v44_1 != (3 : Int))) tt_ok rfl rfl ?_
  refine wl_pure tt_ok rfl rfl ?_
  replace h := bsome h; obtain ⟨v66, h, hg66⟩ := h
  refine wl_split (t := 62) rfl (fun hc => ?_) (fun hc => ?_)
  · replace h := ct hc h
    refine wl_skip rfl rfl ?_
    refine wl_skip rfl rfl ?_
    refine wl_skip rfl rfl ?_
    simp only [Option.some.injEq, Prod.mk.injEq] at h
    obtain rfl := h
    have h := hg66; clear hg66
    refine wl_pure (v := .bool true) tt_ok rfl rfl ?_
    refine wl_nil ?_
    refine wx_then ?_
    replace h := ct rfl h
    refine wc_cond_true rfl ?_
    refine wc_seq ?_
    refine wc_region ?_
    refine wl_pure tt_ok rfl rfl ?_
    refine wl_nil ?_
    refine wx_then ?_
    refine wc_ret ?_
    refine wx_then_ret ?_
    simp only [Option.some.injEq] at h
    obtain rfl := h
    exact wx_pf tt_ok (.inl rfl) Try.results4 (Res.tmp rfl Res.nil) rfl
  replace h := cf hc h
  refine wl_run rfl ?_
  refine wl_pure tt_ok rfl rfl ?_
  refine wl_run rfl ?_
  refine wl_val (v := .int .i64 (v44_0.length : Int)) (val_len tt_ok rfl rfl v44_0N0) rfl ?_
  refine wl_run rfl ?_
  refine wl_pure (v := .bool (decide ((0 : Int) < (v44_0.length : Int)))) tt_ok rfl rfl ?_
  simp only [Option.some.injEq, Prod.mk.injEq] at h
  obtain rfl := h
  have h := hg66; clear hg66
  refine wl_pure (v := .bool (decide ((0 : Int) < (v44_0.length : Int)))) tt_ok rfl rfl ?_
  refine wl_nil ?_
  refine wx_then ?_
  refine wc_cond rfl (fun hc => ?_) (fun hc => ?_)
  · replace h := ct hc h
    refine wc_seq ?_
    refine wc_region ?_
    refine wl_pure tt_ok rfl rfl ?_
    refine wl_nil ?_
    refine wx_then ?_
    refine wc_ret ?_
    refine wx_then_ret ?_
    simp only [Option.some.injEq] at h
    obtain rfl := h
    exact wx_pf tt_ok (.inl rfl) Try.results4 (Res.tmp rfl Res.nil) rfl
  replace h := cf hc h
  refine wc_skip ?_
  refine wx_then ?_
  refine wc_seq ?_
  refine wc_region ?_
  refine wl_pure tt_ok rfl rfl ?_
  refine wl_pure tt_ok rfl rfl ?_
  refine wl_pure (v := .int .i64 (IntKind.wrap .i64 p2)) tt_ok rfl rfl ?_
  refine wl_pure tt_ok rfl rfl ?_
  refine wl_pure (v := .int .i64 (v22.length : Int)) tt_ok rfl rfl ?_
  replace h := bsome h; obtain ⟨v73, x73, h⟩ := h
  refine wl_val (v := .int .i64 v73) (val_rem rfl rfl x73) rfl ?_
  replace h := bsome h; obtain ⟨v74, x74, h⟩ := h
  refine wl_val (v := .string ⟨v74.toArray⟩) (val_ss tt_ok rfl rfl (.inl ⟨rfl, rfl⟩) (.inr ⟨_, _, rfl, rfl⟩) x74) rfl ?_
  replace h := bsome h; obtain ⟨⟨v75_0, v75_1⟩, x75, h⟩ := h; try dsimp only at h
  refine wl_cs Try.call11 rfl rfl rfl (s_sp (k_input_Unpack x75) pNil (fun _ _ => trivial)) rfl ?_
  rintro _ _ ⟨_, ⟨v75_0a0, v75_0n0, v75_0c0, v75_0B0, v75_0N0, v75_0V0, rfl, rfl⟩, rfl⟩
  refine wl_pure tt_ok rfl rfl ?_
  refine wl_pure tt_ok rfl rfl ?_
  refine wl_pure tt_ok rfl rfl ?_
  refine wl_pure tt_ok rfl rfl ?_
  refine wl_pure tt_ok rfl rfl ?_
  refine wl_nil ?_
  refine wx_then ?_
  refine wc_seq ?_
  refine wc_region ?_
  refine wl_pure tt_ok rfl rfl ?_
  refine wl_pure (v := .bool (v75_1 == (10 : Int))) tt_ok rfl rfl ?_
  refine wl_pure tt_ok rfl rfl ?_
  replace h := bsome h; obtain ⟨v84, h, hg84⟩ := h
  refine wl_split (t := 80) rfl (fun hc => ?_) (fun hc => ?_)
  · replace h := ct hc h
    refine wl_run rfl ?_
    refine wl_pure tt_ok rfl rfl ?_
    refine wl_run rfl ?_
    refine wl_val (v := .int .i64 (v75_0.length : Int)) (val_len tt_ok rfl rfl v75_0N0) rfl ?_
    refine wl_run rfl ?_
    refine wl_pure (v := .bool ((v75_0.length : Int) == (0 : Int))) tt_ok rfl rfl ?_
    simp only [Option.some.injEq, Prod.mk.injEq] at h
    obtain rfl := h
    have h := hg84; clear hg84
    refine wl_pure (v := .bool ((v75_0.length : Int) == (0 : Int))) tt_ok rfl rfl ?_
    refine wl_pure tt_ok rfl rfl ?_
    replace h := bsome h; obtain ⟨v87, h, hg87⟩ := h
    refine wl_split (t := 85) rfl (fun hc => ?_) (fun hc => ?_)
    · replace h := ct hc h
      replace h := bsome h; obtain ⟨v86, x86, h⟩ := h
      refine wl_run rfl ?_
      refine wl_cq Try.call10 rfl rfl rfl (q_pf (k_hindcastlaw06_works x86) (fun _ _ => trivial)) rfl ?_
      simp only [Option.some.injEq, Prod.mk.injEq] at h
      obtain rfl := h
      have h := hg87; clear hg87
      refine wl_pure (v := .bool v86) tt_ok rfl rfl ?_
      refine wl_pure tt_ok rfl rfl ?_
      refine wl_nil ?_
      refine wx_then ?_
      refine wc_ret ?_
      simp only [Option.some.injEq] at h
      obtain rfl := h
      exact wx_pf tt_ok (.inl rfl) Try.results4 (Res.tmp rfl Res.nil) rfl
    replace h := cf hc h
    refine wl_skip rfl rfl ?_
    simp only [Option.some.injEq, Prod.mk.injEq] at h
    obtain rfl := h
    have h := hg87; clear hg87
    refine wl_pure (v := .bool false) tt_ok rfl rfl ?_
    refine wl_pure tt_ok rfl rfl ?_
    refine wl_nil ?_
    refine wx_then ?_
    refine wc_ret ?_
    simp only [Option.some.injEq] at h
    obtain rfl := h
    exact wx_pf tt_ok (.inl rfl) Try.results4 (Res.tmp rfl Res.nil) rfl
  replace h := cf hc h
  refine wl_skip rfl rfl ?_
  refine wl_skip rfl rfl ?_
  refine wl_skip rfl rfl ?_
  simp only [Option.some.injEq, Prod.mk.injEq] at h
  obtain rfl := h
  have h := hg84; clear hg84
  refine wl_pure (v := .bool false) tt_ok rfl rfl ?_
  refine wl_pure tt_ok rfl rfl ?_
  replace h := bsome h; obtain ⟨v87, h, hg87⟩ := h
  replace h := cf rfl h
  refine wl_skip rfl rfl ?_
  simp only [Option.some.injEq, Prod.mk.injEq] at h
  obtain rfl := h
  have h := hg87; clear hg87
  refine wl_pure (v := .bool false) tt_ok rfl rfl ?_
  refine wl_pure tt_ok rfl rfl ?_
  refine wl_nil ?_
  refine wx_then ?_
  refine wc_ret ?_
  simp only [Option.some.injEq] at h
  obtain rfl := h
  exact wx_pf tt_ok (.inl rfl) Try.results4 (Res.tmp rfl Res.nil) rfl

end Go.Proofs.Ytolmilcdhphnhaa
