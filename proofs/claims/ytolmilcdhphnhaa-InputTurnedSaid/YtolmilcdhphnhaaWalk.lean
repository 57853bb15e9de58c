/-
  Each function computes what its model says. Printed by a program of this claim's own.
-/
import Derived.Test.YtolmilcdhphnhaaTab
import Derived.Test.YtolmilcdhphnhaaMod
import Derived.Test.YtolmilcdhphnhaaWalk1
namespace Go.Proofs.Ytolmilcdhphnhaa
open Go.Proofs.Ytolmilcdhphnhaa.Eng
set_option linter.unusedVariables false
set_option linter.unusedSimpArgs false
set_option maxHeartbeats 4000000
set_option maxRecDepth 20000

theorem k_hindcastlaw06_legal {F : Nat} {p0 : (List Int)} {p0a0 : Option Addr} {p0n0 p0c0 : Nat} {r0 : (List Int)} (p0N0 : p0n0 = p0.length) (p0H0 : p0n0 ≤ p0c0) (h : m_hindcastlaw06_legal F p0 = some r0) :
    SpD Try.prog 14 [.slice p0a0 p0n0 p0c0] [] (fun w => Rds w (ids []) [] p0a0 (flat (e1 .u8) p0)) (fun v D => ∃ (r0a0 : Option Addr) (r0n0 r0c0 : Nat) (r0B0 : List Blk), r0n0 = r0.length ∧ Own 35 1 r0a0 r0n0 r0c0 (flat (e1 .u8) r0) r0B0 ∧ v = .slice r0a0 r0n0 r0c0 ∧ D = fun F => (r0B0 ++ F)) := by
  unfold m_hindcastlaw06_legal at h
  refine sp_of_wc Try.func14 rfl Try.ntmps14 rfl rfl (fun w0 hR => ?_)
  have p0S0 := hR
  refine wc_seq ?_
  refine wc_region ?_
  refine wl_pure tt_ok rfl rfl ?_
  refine wl_nil ?_
  refine wx_then ?_
  refine wc_seq ?_
  refine wc_region ?_
  refine wl_pure tt_ok rfl rfl ?_
  refine wl_nil ?_
  refine wx_then ?_
  refine wc_seq ?_
  refine wc_seq ?_
  refine wc_region ?_
  refine wl_pure tt_ok rfl rfl ?_
  refine wl_nil ?_
  refine wx_then ?_
  refine wc_block ?_
  replace h := bsome h; obtain ⟨l9_3, h, hl9⟩ := h
  refine wc_loop (fun m E L => ∃ (j9_3 : (List Int)) (j9_4 : Int) (j9_3a0 : Option Addr) (j9_3n0 : Nat) (j9_3c0 : Nat) (j9_3B0 : List Blk), m_hindcastlaw06_legal_L8 F p0 m j9_3 j9_4 = some l9_3 ∧ j9_3n0 = j9_3.length ∧ Own 35 1 j9_3a0 j9_3n0 j9_3c0 (flat (e1 .u8) j9_3) j9_3B0 ∧ E = [(0, .slice p0a0 p0n0 p0c0), (2, .slice none 0 0), (3, .slice j9_3a0 j9_3n0 j9_3c0), (4, .int .i64 j9_4)] ∧ L = (j9_3B0 ++ [])) F ⟨([] : List Int), (0 : Int), none, 0, 0, [], h, rfl, Own.zero, rfl, rfl⟩ (agree_cons rfl (agree_cons rfl (agree_cons rfl (agree_cons rfl agree_nil)))) (pSub (pNo pNil)) ?_
  clear h
  rintro m9 _ _ ⟨j9_3, j9_4, j9_3a0, j9_3n0, j9_3c0, j9_3B0, h, j9_3N0, j9_3V0, rfl, rfl⟩
  rcases m9 with _ | m9
  · rw [m_hindcastlaw06_legal_L8.eq_1] at h; cases h
  rw [m_hindcastlaw06_legal_L8.eq_2] at h
  refine wc_seq ?_
  refine wc_seq ?_
  refine wc_region ?_
  refine wl_pure tt_ok rfl rfl ?_
  refine wl_pure tt_ok rfl rfl ?_
  refine wl_val (v := .int .i64 (p0.length : Int)) (val_len tt_ok rfl rfl p0N0) rfl ?_
  refine wl_pure (v := .bool (decide (j9_4 < (p0.length : Int)))) tt_ok rfl rfl ?_
  refine wl_nil ?_
  refine wx_then ?_
  refine wc_cond rfl (fun hc => ?_) (fun hc => ?_)
  · replace h := ct hc h
    refine wc_skip ?_
    refine wx_then ?_
    refine wc_seq ?_
    refine wc_block ?_
    refine wc_region ?_
    refine wl_pure tt_ok rfl rfl ?_
    refine wl_pure tt_ok rfl rfl ?_
    refine wl_pure tt_ok rfl rfl ?_
    replace h := bsome h; obtain ⟨v14, x14, h⟩ := h
    refine wl_val (v := .pointer (some ((adOf p0a0).add (j9_4.toNat * 1 + 0)))) (val_ix (enc := (e1 .u8)) tt_ok rfl rfl rfl rfl p0N0 p0S0 (e1_len _) rfl x14) rfl ?_
    refine wl_val (v := .int .u8 v14) (val_le (enc := (e1 .u8)) (xs := p0) tt_ok rfl p0S0 rsub_nil (e1_len _) x14 rfl) rfl ?_
    refine wl_pure (v := .int .u8 (Int.tmod v14 64)) tt_ok rfl rfl ?_
    refine wl_chg (chg_bs tt_ok rfl rfl rfl rfl rfl) rfl ?_
    rintro _ _ ⟨b17, rfl, rfl⟩
    replace h := bsome h; obtain ⟨v18, x18, h⟩ := h
    refine wl_chg (chg_app (enc := (e1 .u8)) (ys := ([(Int.tmod v14 64)] : List Int)) tt_ok rfl rfl rfl rfl rfl rfl j9_3N0 rfl j9_3V0 (Sel.sc Sel.ha) (Rds.of_blk (t := 35) (fz := (0, 0))) ⟨_, Sel.hc⟩ (e1_len _) (fun _ => rfl) rfl x18) rfl ?_
    rintro _ _ ⟨a18, n18_, c18, B18, rfl, N18, V18, rfl⟩
    refine wl_pure tt_ok rfl rfl ?_
    refine wl_nil ?_
    refine wx_block ?_
    refine wx_then ?_
    refine wc_region ?_
    refine wl_pure tt_ok rfl rfl ?_
    refine wl_pure (v := .int .i64 (IntKind.wrap .i64 (j9_4 + (1 : Int)))) tt_ok rfl rfl ?_
    refine wl_pure tt_ok rfl rfl ?_
    refine wl_nil ?_
    exact wx_round m9 (Nat.lt_succ_self m9) ⟨v18, (IntKind.wrap .i64 (j9_4 + (1 : Int))), a18, n18_, c18, B18, h, N18, V18, rfl, rfl⟩ (agree_cons rfl (agree_cons rfl (agree_cons rfl (agree_cons rfl agree_nil)))) (pSub (pApp Sel.ha pNil))
  · replace h := cf hc h
    refine wc_exit ?_
    refine wx_then_exit ?_
    simp only [Option.some.injEq] at h
    obtain rfl := h
    have h := hl9; clear hl9; try dsimp only [orE_l, orE_r] at h
    refine wx_then_exit ?_
    refine wx_block_exit ?_
    refine wx_then ?_
    refine wc_seq ?_
    refine wc_region ?_
    refine wl_pure tt_ok rfl rfl ?_
    refine wl_pure tt_ok rfl rfl ?_
    refine wl_nil ?_
    refine wx_then ?_
    refine wc_ret ?_
    simp only [Option.some.injEq] at h
    obtain rfl := h
    exact wx_spD tt_ok (.inl rfl) Try.results14 (Res.tmp rfl Res.nil) ⟨j9_3a0, j9_3n0, j9_3c0, j9_3B0, j9_3N0, j9_3V0, rfl, rfl⟩ (fun F => by simp) (pSub (pApp Sel.ha pNil))

theorem k_hindcastlaw06_InputBack {F : Nat} {p0 : (List Int)} {p0a0 : Option Addr} {p0n0 p0c0 : Nat} {p1 : Int} {p2 : Int} {r0 : Bool} (p0N0 : p0n0 = p0.length) (p0H0 : p0n0 ≤ p0c0) (h : m_hindcastlaw06_InputBack F p0 p1 p2 = some r0) :
    Pf Try.prog 4 [.slice p0a0 p0n0 p0c0, .int .u16 p1, .int .u16 p2] (fun w => Rds w [] [] p0a0 (flat (e1 .u8) p0)) (.bool r0) := by
  unfold m_hindcastlaw06_InputBack at h
  refine pf_of_wc Try.func4 rfl Try.ntmps4 rfl rfl (fun w0 hR => ?_)
  have p0S0 := hR
  refine wc_seq ?_
  refine wc_region ?_
  refine wl_pure tt_ok rfl rfl ?_
  refine wl_nil ?_
  refine wx_then ?_
  refine wc_seq ?_
  refine wc_seq ?_
  refine wc_region ?_
  refine wl_pure tt_ok rfl rfl ?_
  refine wl_val (v := .int .i64 (p0.length : Int)) (val_len tt_ok rfl rfl p0N0) rfl ?_
  refine wl_pure (v := .bool (decide ((1500 : Int) < (p0.length : Int)))) tt_ok rfl rfl ?_
  refine wl_nil ?_
  refine wx_then ?_
  refine wc_cond rfl (fun hc => ?_) (fun hc => ?_)
  · replace h := ct hc h
    refine wc_seq ?_
    refine wc_region ?_
    replace h := bsome h; obtain ⟨v18, x18, h⟩ := h
    refine wl_cq Try.call10 rfl rfl rfl (q_pf (k_hindcastlaw06_works x18) (fun _ _ => trivial)) rfl ?_
    refine wl_pure tt_ok rfl rfl ?_
    refine wl_nil ?_
    refine wx_then ?_
    refine wc_ret ?_
    refine wx_then_ret ?_
    simp only [Option.some.injEq] at h
    obtain rfl := h
    exact wx_pf tt_ok (.inl rfl) Try.results4 (Res.tmp rfl Res.nil) rfl
  · replace h := cf hc h
    refine wc_skip ?_
    refine wx_then ?_
    refine wc_seq ?_
    refine wc_region ?_
    refine wl_pure tt_ok rfl rfl ?_
    replace h := bsome h; obtain ⟨v20, x20, h⟩ := h
    refine wl_cs Try.call14 rfl rfl rfl (s_sp (k_hindcastlaw06_legal p0N0 p0H0 x20) pNil (Rds.call p0S0 pNil rsub_nil)) rfl ?_
    rintro _ _ ⟨_, ⟨v20a0, v20n0, v20c0, v20B0, v20N0, v20V0, rfl, rfl⟩, rfl⟩
    refine wl_pure tt_ok rfl rfl ?_
    refine wl_nil ?_
    refine wx_then ?_
    refine wc_seq ?_
    refine wc_region ?_
    refine wl_pure tt_ok rfl rfl ?_
    replace h := bsome h; obtain ⟨v22, x22, h⟩ := h
    refine wl_cq Try.call15 rfl rfl rfl (q_pf (k_input_Pack v20N0 (vec_cap v20V0) x22) (Rds.call (Rds.of_vec v20V0) pNil ⟨_, Sel.ha⟩)) rfl ?_
    refine wl_pure tt_ok rfl rfl ?_
    refine wl_nil ?_
    refine wx_then ?_
    refine wc_seq ?_
    refine wc_seq ?_
    refine wc_region ?_
    refine wl_pure tt_ok rfl rfl ?_
    refine wl_val (v := .bool (v22 == ([] : List UInt8))) (val_seq tt_ok rfl rfl) rfl ?_
    refine wl_nil ?_
    refine wx_then ?_
    refine wc_cond rfl (fun hc => ?_) (fun hc => ?_)
    · replace h := ct hc h
      refine wc_seq ?_
      refine wc_region ?_
      refine wl_pure tt_ok rfl rfl ?_
      refine wl_nil ?_
      refine wx_then ?_
      refine wc_ret ?_
      refine wx_then_ret ?_
      simp only [Option.some.injEq] at h
      obtain rfl := h
      exact wx_pf tt_ok (.inl rfl) Try.results4 (Res.tmp rfl Res.nil) rfl
    · replace h := cf hc h
      refine wc_skip ?_
      refine wx_then ?_
      refine wc_seq ?_
      refine wc_region ?_
      refine wl_pure tt_ok rfl rfl ?_
      refine wl_pure tt_ok rfl rfl ?_
      refine wl_val (v := .int .i64 (v20.length : Int)) (val_len tt_ok rfl rfl v20N0) rfl ?_
      replace h := bsome h; obtain ⟨⟨v29_0, v29_1⟩, x29, h⟩ := h; try dsimp only at h
      refine wl_cs Try.call11 rfl rfl rfl (s_sp (k_input_Unpack x29) pNil (fun _ _ => trivial)) rfl ?_
      rintro _ _ ⟨_, ⟨v29_0a0, v29_0n0, v29_0c0, v29_0B0, v29_0N0, v29_0V0, rfl, rfl⟩, rfl⟩
      refine wl_pure tt_ok rfl rfl ?_
      refine wl_pure tt_ok rfl rfl ?_
      refine wl_pure tt_ok rfl rfl ?_
      refine wl_pure tt_ok rfl rfl ?_
      refine wl_pure tt_ok rfl rfl ?_
      refine wl_nil ?_
      refine wx_then ?_
      refine wc_seq ?_
      refine wc_seq ?_
      refine wc_region ?_
      refine wl_pure tt_ok rfl rfl ?_
      refine wl_pure (v := .bool (v29_1 != (0 : Int))) tt_ok rfl rfl ?_
      refine wl_pure tt_ok rfl rfl ?_
      replace h := bsome h; obtain ⟨v39, h, hg39⟩ := h
      refine wl_split (t := 34) rfl (fun hc => ?_) (fun hc => ?_)
      · replace h := ct hc h
        refine wl_skip rfl rfl ?_
        refine wl_skip rfl rfl ?_
        refine wl_skip rfl rfl ?_
        refine wl_skip rfl rfl ?_
        simp only [Option.some.injEq, Prod.mk.injEq] at h
        obtain rfl := h
        have h := hg39; clear hg39
        refine wl_pure (v := .bool true) tt_ok rfl rfl ?_
        refine wl_nil ?_
        refine wx_then ?_
        replace h := ct rfl h
        refine wc_cond_true rfl ?_
        refine wc_seq ?_
        refine wc_region ?_
        refine wl_pure tt_ok rfl rfl ?_
        refine wl_nil ?_
        refine wx_then ?_
        refine wc_ret ?_
        refine wx_then_ret ?_
        simp only [Option.some.injEq] at h
        obtain rfl := h
        exact wx_pf tt_ok (.inl rfl) Try.results4 (Res.tmp rfl Res.nil) rfl
      · replace h := cf hc h
        refine wl_run rfl ?_
        refine wl_pure tt_ok rfl rfl ?_
        refine wl_run rfl ?_
        refine wl_pure tt_ok rfl rfl ?_
        replace h := bsome h; obtain ⟨v37, x37, h⟩ := h
        refine wl_run rfl ?_
        refine wl_cq Try.call13 rfl rfl rfl (q_pf (k_hindcastref06_Same v29_0N0 (vec_cap v29_0V0) v20N0 (vec_cap v20V0) x37) (fun w hI => ⟨(Rds.call (Rds.of_vec v29_0V0) pNil ⟨_, Sel.ha⟩) w hI, (Rds.call (Rds.of_vec v20V0) pNil ⟨_, (Sel.sa Sel.ha)⟩) w hI⟩)) rfl ?_
        refine wl_run rfl ?_
        refine wl_pure (v := .bool (!v37)) tt_ok rfl rfl ?_
        simp only [Option.some.injEq, Prod.mk.injEq] at h
        obtain rfl := h
        have h := hg39; clear hg39
        refine wl_pure (v := .bool (!v37)) tt_ok rfl rfl ?_
        refine wl_nil ?_
        refine wx_then ?_
        refine wc_cond rfl (fun hc => ?_) (fun hc => ?_)
        · replace h := ct hc h
          refine wc_seq ?_
          refine wc_region ?_
          refine wl_pure tt_ok rfl rfl ?_
          refine wl_nil ?_
          refine wx_then ?_
          refine wc_ret ?_
          refine wx_then_ret ?_
          simp only [Option.some.injEq] at h
          obtain rfl := h
          exact wx_pf tt_ok (.inl rfl) Try.results4 (Res.tmp rfl Res.nil) rfl
        · replace h := cf hc h
          refine wc_skip ?_
          refine wx_then ?_
          refine wc_seq ?_
          refine wc_region ?_
          refine wl_pure tt_ok rfl rfl ?_
          refine wl_pure tt_ok rfl rfl ?_
          refine wl_pure (v := .int .i64 (IntKind.wrap .i64 p1)) tt_ok rfl rfl ?_
          replace h := bsome h; obtain ⟨⟨v44_0, v44_1⟩, x44, h⟩ := h; try dsimp only at h
          refine wl_cs Try.call11 rfl rfl rfl (s_sp (k_input_Unpack x44) pNil (fun _ _ => trivial)) rfl ?_
          rintro _ _ ⟨_, ⟨v44_0a0, v44_0n0, v44_0c0, v44_0B0, v44_0N0, v44_0V0, rfl, rfl⟩, rfl⟩
          refine wl_pure tt_ok rfl rfl ?_
          refine wl_pure tt_ok rfl rfl ?_
          refine wl_pure tt_ok rfl rfl ?_
          refine wl_pure tt_ok rfl rfl ?_
          refine wl_pure tt_ok rfl rfl ?_
          refine wl_nil ?_
          refine wx_then ?_
          refine wc_seq ?_
          refine wc_seq ?_
          refine wc_region ?_
          refine wl_pure tt_ok rfl rfl ?_
          refine wl_pure (v := .int .i64 (IntKind.wrap .i64 p1)) tt_ok rfl rfl ?_
          refine wl_pure tt_ok rfl rfl ?_
          refine wl_val (v := .int .i64 (v20.length : Int)) (val_len tt_ok rfl rfl v20N0) rfl ?_
          refine wl_pure (v := .bool (decide ((v20.length : Int) ≤ (IntKind.wrap .i64 p1)))) tt_ok rfl rfl ?_
          refine wl_nil ?_
          refine wx_then ?_
          refine wc_cond rfl (fun hc => ?_) (fun hc => ?_)
          · replace h := ct hc h
            refine wc_seq ?_
            refine wc_region ?_
            refine wl_pure tt_ok rfl rfl ?_
            refine wl_pure (v := .bool (v44_1 != (0 : Int))) tt_ok rfl rfl ?_
            refine wl_pure tt_ok rfl rfl ?_
            replace h := bsome h; obtain ⟨v59, h, hg59⟩ := h
            refine wl_split (t := 54) rfl (fun hc => ?_) (fun hc => ?_)
            · replace h := ct hc h
              refine wl_skip rfl rfl ?_
              refine wl_skip rfl rfl ?_
              refine wl_skip rfl rfl ?_
              refine wl_skip rfl rfl ?_
              simp only [Option.some.injEq, Prod.mk.injEq] at h
              obtain rfl := h
              have h := hg59; clear hg59
              refine wl_pure (v := .bool true) tt_ok rfl rfl ?_
              refine wl_nil ?_
              refine wx_then ?_
              replace h := ct rfl h
              refine wc_cond_true rfl ?_
              refine wc_seq ?_
              refine wc_region ?_
              refine wl_pure tt_ok rfl rfl ?_
              refine wl_nil ?_
              refine wx_then ?_
              refine wc_ret ?_
              refine wx_then_ret ?_
              simp only [Option.some.injEq] at h
              obtain rfl := h
              exact wx_pf tt_ok (.inl rfl) Try.results4 (Res.tmp rfl Res.nil) rfl
            · replace h := cf hc h
              refine wl_run rfl ?_
              refine wl_pure tt_ok rfl rfl ?_
              refine wl_run rfl ?_
              refine wl_pure tt_ok rfl rfl ?_
              replace h := bsome h; obtain ⟨v57, x57, h⟩ := h
              refine wl_run rfl ?_
              refine wl_cq Try.call13 rfl rfl rfl (q_pf (k_hindcastref06_Same v44_0N0 (vec_cap v44_0V0) v20N0 (vec_cap v20V0) x57) (fun w hI => ⟨(Rds.call (Rds.of_vec v44_0V0) pNil ⟨_, Sel.ha⟩) w hI, (Rds.call (Rds.of_vec v20V0) pNil ⟨_, (Sel.sa (Sel.sa Sel.ha))⟩) w hI⟩)) rfl ?_
              refine wl_run rfl ?_
              refine wl_pure (v := .bool (!v57)) tt_ok rfl rfl ?_
              simp only [Option.some.injEq, Prod.mk.injEq] at h
              obtain rfl := h
              have h := hg59; clear hg59
              refine wl_pure (v := .bool (!v57)) tt_ok rfl rfl ?_
              refine wl_nil ?_
              refine wx_then ?_
              refine wc_cond rfl (fun hc => ?_) (fun hc => ?_)
              · replace h := ct hc h
                refine wc_seq ?_
                refine wc_region ?_
                refine wl_pure tt_ok rfl rfl ?_
                refine wl_nil ?_
                refine wx_then ?_
                refine wc_ret ?_
                refine wx_then_ret ?_
                simp only [Option.some.injEq] at h
                obtain rfl := h
                exact wx_pf tt_ok (.inl rfl) Try.results4 (Res.tmp rfl Res.nil) rfl
              · replace h := cf hc h
                refine wc_skip ?_
                refine wx_then ?_
                refine wc_seq ?_
                refine wc_region ?_
                refine wl_pure tt_ok rfl rfl ?_
                refine wl_pure tt_ok rfl rfl ?_
                refine wl_pure (v := .int .i64 (IntKind.wrap .i64 p2)) tt_ok rfl rfl ?_
                refine wl_pure tt_ok rfl rfl ?_
                refine wl_pure (v := .int .i64 (v22.length : Int)) tt_ok rfl rfl ?_
                replace h := bsome h; obtain ⟨v73, x73, h⟩ := h
                refine wl_val (v := .int .i64 v73) (val_rem rfl rfl x73) rfl ?_
                replace h := bsome h; obtain ⟨v74, x74, h⟩ := h
                refine wl_val (v := .string ⟨v74.toArray⟩) (val_ss tt_ok rfl rfl (.inl ⟨rfl, rfl⟩) (.inr ⟨_, _, rfl, rfl⟩) x74) rfl ?_
                replace h := bsome h; obtain ⟨⟨v75_0, v75_1⟩, x75, h⟩ := h; try dsimp only at h
                refine wl_cs Try.call11 rfl rfl rfl (s_sp (k_input_Unpack x75) pNil (fun _ _ => trivial)) rfl ?_
                rintro _ _ ⟨_, ⟨v75_0a0, v75_0n0, v75_0c0, v75_0B0, v75_0N0, v75_0V0, rfl, rfl⟩, rfl⟩
                refine wl_pure tt_ok rfl rfl ?_
                refine wl_pure tt_ok rfl rfl ?_
                refine wl_pure tt_ok rfl rfl ?_
                refine wl_pure tt_ok rfl rfl ?_
                refine wl_pure tt_ok rfl rfl ?_
                refine wl_nil ?_
                refine wx_then ?_
                refine wc_seq ?_
                refine wc_region ?_
                refine wl_pure tt_ok rfl rfl ?_
                refine wl_pure (v := .bool (v75_1 == (10 : Int))) tt_ok rfl rfl ?_
                refine wl_pure tt_ok rfl rfl ?_
                replace h := bsome h; obtain ⟨v84, h, hg84⟩ := h
                refine wl_split (t := 80) rfl (fun hc => ?_) (fun hc => ?_)
                · replace h := ct hc h
                  refine wl_run rfl ?_
                  refine wl_pure tt_ok rfl rfl ?_
                  refine wl_run rfl ?_
                  refine wl_val (v := .int .i64 (v75_0.length : Int)) (val_len tt_ok rfl rfl v75_0N0) rfl ?_
                  refine wl_run rfl ?_
                  refine wl_pure (v := .bool ((v75_0.length : Int) == (0 : Int))) tt_ok rfl rfl ?_
                  simp only [Option.some.injEq, Prod.mk.injEq] at h
                  obtain rfl := h
                  have h := hg84; clear hg84
                  refine wl_pure (v := .bool ((v75_0.length : Int) == (0 : Int))) tt_ok rfl rfl ?_
                  refine wl_pure tt_ok rfl rfl ?_
                  replace h := bsome h; obtain ⟨v87, h, hg87⟩ := h
                  refine wl_split (t := 85) rfl (fun hc => ?_) (fun hc => ?_)
                  · replace h := ct hc h
                    replace h := bsome h; obtain ⟨v86, x86, h⟩ := h
                    refine wl_run rfl ?_
                    refine wl_cq Try.call10 rfl rfl rfl (q_pf (k_hindcastlaw06_works x86) (fun _ _ => trivial)) rfl ?_
                    simp only [Option.some.injEq, Prod.mk.injEq] at h
                    obtain rfl := h
                    have h := hg87; clear hg87
                    refine wl_pure (v := .bool v86) tt_ok rfl rfl ?_
                    refine wl_pure tt_ok rfl rfl ?_
                    refine wl_nil ?_
                    refine wx_then ?_
                    refine wc_ret ?_
                    simp only [Option.some.injEq] at h
                    obtain rfl := h
                    exact wx_pf tt_ok (.inl rfl) Try.results4 (Res.tmp rfl Res.nil) rfl
                  · replace h := cf hc h
                    refine wl_skip rfl rfl ?_
                    simp only [Option.some.injEq, Prod.mk.injEq] at h
                    obtain rfl := h
                    have h := hg87; clear hg87
                    refine wl_pure (v := .bool false) tt_ok rfl rfl ?_
                    refine wl_pure tt_ok rfl rfl ?_
                    refine wl_nil ?_
                    refine wx_then ?_
                    refine wc_ret ?_
                    simp only [Option.some.injEq] at h
                    obtain rfl := h
                    exact wx_pf tt_ok (.inl rfl) Try.results4 (Res.tmp rfl Res.nil) rfl
                · replace h := cf hc h
                  refine wl_skip rfl rfl ?_
                  refine wl_skip rfl rfl ?_
                  refine wl_skip rfl rfl ?_
                  simp only [Option.some.injEq, Prod.mk.injEq] at h
                  obtain rfl := h
                  have h := hg84; clear hg84
                  refine wl_pure (v := .bool false) tt_ok rfl rfl ?_
                  refine wl_pure tt_ok rfl rfl ?_
                  replace h := bsome h; obtain ⟨v87, h, hg87⟩ := h
                  replace h := cf rfl h
                  refine wl_skip rfl rfl ?_
                  simp only [Option.some.injEq, Prod.mk.injEq] at h
                  obtain rfl := h
                  have h := hg87; clear hg87
                  refine wl_pure (v := .bool false) tt_ok rfl rfl ?_
                  refine wl_pure tt_ok rfl rfl ?_
                  refine wl_nil ?_
                  refine wx_then ?_
                  refine wc_ret ?_
                  simp only [Option.some.injEq] at h
                  obtain rfl := h
                  exact wx_pf tt_ok (.inl rfl) Try.results4 (Res.tmp rfl Res.nil) rfl
          · replace h := cf hc h
            refine wc_seq ?_
            refine wc_region ?_
            refine wl_pure tt_ok rfl rfl ?_
            refine wl_pure (v := .bool (v44_1 != (3 : Int))) tt_ok rfl rfl ?_
            refine wl_pure tt_ok rfl rfl ?_
            replace h := bsome h; obtain ⟨v66, h, hg66⟩ := h
            refine wl_split (t := 62) rfl (fun hc => ?_) (fun hc => ?_)
            · replace h := ct hc h
              refine wl_skip rfl rfl ?_
              refine wl_skip rfl rfl ?_
              refine wl_skip rfl rfl ?_
              simp only [Option.some.injEq, Prod.mk.injEq] at h
              obtain rfl := h
              have h := hg66; clear hg66
              refine wl_pure (v := .bool true) tt_ok rfl rfl ?_
              refine wl_nil ?_
              refine wx_then ?_
              replace h := ct rfl h
              refine wc_cond_true rfl ?_
              refine wc_seq ?_
              refine wc_region ?_
              refine wl_pure tt_ok rfl rfl ?_
              refine wl_nil ?_
              refine wx_then ?_
              refine wc_ret ?_
              refine wx_then_ret ?_
              simp only [Option.some.injEq] at h
              obtain rfl := h
              exact wx_pf tt_ok (.inl rfl) Try.results4 (Res.tmp rfl Res.nil) rfl
            · replace h := cf hc h
              refine wl_run rfl ?_
              refine wl_pure tt_ok rfl rfl ?_
              refine wl_run rfl ?_
              refine wl_val (v := .int .i64 (v44_0.length : Int)) (val_len tt_ok rfl rfl v44_0N0) rfl ?_
              refine wl_run rfl ?_
              refine wl_pure (v := .bool (decide ((0 : Int) < (v44_0.length : Int)))) tt_ok rfl rfl ?_
              simp only [Option.some.injEq, Prod.mk.injEq] at h
              obtain rfl := h
              have h := hg66; clear hg66
              refine wl_pure (v := .bool (decide ((0 : Int) < (v44_0.length : Int)))) tt_ok rfl rfl ?_
              refine wl_nil ?_
              refine wx_then ?_
              refine wc_cond rfl (fun hc => ?_) (fun hc => ?_)
              · replace h := ct hc h
                refine wc_seq ?_
                refine wc_region ?_
                refine wl_pure tt_ok rfl rfl ?_
                refine wl_nil ?_
                refine wx_then ?_
                refine wc_ret ?_
                refine wx_then_ret ?_
                simp only [Option.some.injEq] at h
                obtain rfl := h
                exact wx_pf tt_ok (.inl rfl) Try.results4 (Res.tmp rfl Res.nil) rfl
              · replace h := cf hc h
                refine wc_skip ?_
                refine wx_then ?_
                refine wc_seq ?_
                refine wc_region ?_
                refine wl_pure tt_ok rfl rfl ?_
                refine wl_pure tt_ok rfl rfl ?_
                refine wl_pure (v := .int .i64 (IntKind.wrap .i64 p2)) tt_ok rfl rfl ?_
                refine wl_pure tt_ok rfl rfl ?_
                refine wl_pure (v := .int .i64 (v22.length : Int)) tt_ok rfl rfl ?_
                replace h := bsome h; obtain ⟨v73, x73, h⟩ := h
                refine wl_val (v := .int .i64 v73) (val_rem rfl rfl x73) rfl ?_
                replace h := bsome h; obtain ⟨v74, x74, h⟩ := h
                refine wl_val (v := .string ⟨v74.toArray⟩) (val_ss tt_ok rfl rfl (.inl ⟨rfl, rfl⟩) (.inr ⟨_, _, rfl, rfl⟩) x74) rfl ?_
                replace h := bsome h; obtain ⟨⟨v75_0, v75_1⟩, x75, h⟩ := h; try dsimp only at h
                refine wl_cs Try.call11 rfl rfl rfl (s_sp (k_input_Unpack x75) pNil (fun _ _ => trivial)) rfl ?_
                rintro _ _ ⟨_, ⟨v75_0a0, v75_0n0, v75_0c0, v75_0B0, v75_0N0, v75_0V0, rfl, rfl⟩, rfl⟩
                refine wl_pure tt_ok rfl rfl ?_
                refine wl_pure tt_ok rfl rfl ?_
                refine wl_pure tt_ok rfl rfl ?_
                refine wl_pure tt_ok rfl rfl ?_
                refine wl_pure tt_ok rfl rfl ?_
                refine wl_nil ?_
                refine wx_then ?_
                refine wc_seq ?_
                refine wc_region ?_
                refine wl_pure tt_ok rfl rfl ?_
                refine wl_pure (v := .bool (v75_1 == (10 : Int))) tt_ok rfl rfl ?_
                refine wl_pure tt_ok rfl rfl ?_
                replace h := bsome h; obtain ⟨v84, h, hg84⟩ := h
                refine wl_split (t := 80) rfl (fun hc => ?_) (fun hc => ?_)
                · replace h := ct hc h
                  refine wl_run rfl ?_
                  refine wl_pure tt_ok rfl rfl ?_
                  refine wl_run rfl ?_
                  refine wl_val (v := .int .i64 (v75_0.length : Int)) (val_len tt_ok rfl rfl v75_0N0) rfl ?_
                  refine wl_run rfl ?_
                  refine wl_pure (v := .bool ((v75_0.length : Int) == (0 : Int))) tt_ok rfl rfl ?_
                  simp only [Option.some.injEq, Prod.mk.injEq] at h
                  obtain rfl := h
                  have h := hg84; clear hg84
                  refine wl_pure (v := .bool ((v75_0.length : Int) == (0 : Int))) tt_ok rfl rfl ?_
                  refine wl_pure tt_ok rfl rfl ?_
                  replace h := bsome h; obtain ⟨v87, h, hg87⟩ := h
                  refine wl_split (t := 85) rfl (fun hc => ?_) (fun hc => ?_)
                  · replace h := ct hc h
                    replace h := bsome h; obtain ⟨v86, x86, h⟩ := h
                    refine wl_run rfl ?_
                    refine wl_cq Try.call10 rfl rfl rfl (q_pf (k_hindcastlaw06_works x86) (fun _ _ => trivial)) rfl ?_
                    simp only [Option.some.injEq, Prod.mk.injEq] at h
                    obtain rfl := h
                    have h := hg87; clear hg87
                    refine wl_pure (v := .bool v86) tt_ok rfl rfl ?_
                    refine wl_pure tt_ok rfl rfl ?_
                    refine wl_nil ?_
                    refine wx_then ?_
                    refine wc_ret ?_
                    simp only [Option.some.injEq] at h
                    obtain rfl := h
                    exact wx_pf tt_ok (.inl rfl) Try.results4 (Res.tmp rfl Res.nil) rfl
                  · replace h := cf hc h
                    refine wl_skip rfl rfl ?_
                    simp only [Option.some.injEq, Prod.mk.injEq] at h
                    obtain rfl := h
                    have h := hg87; clear hg87
                    refine wl_pure (v := .bool false) tt_ok rfl rfl ?_
                    refine wl_pure tt_ok rfl rfl ?_
                    refine wl_nil ?_
                    refine wx_then ?_
                    refine wc_ret ?_
                    simp only [Option.some.injEq] at h
                    obtain rfl := h
                    exact wx_pf tt_ok (.inl rfl) Try.results4 (Res.tmp rfl Res.nil) rfl
                · replace h := cf hc h
                  refine wl_skip rfl rfl ?_
                  refine wl_skip rfl rfl ?_
                  refine wl_skip rfl rfl ?_
                  simp only [Option.some.injEq, Prod.mk.injEq] at h
                  obtain rfl := h
                  have h := hg84; clear hg84
                  refine wl_pure (v := .bool false) tt_ok rfl rfl ?_
                  refine wl_pure tt_ok rfl rfl ?_
                  replace h := bsome h; obtain ⟨v87, h, hg87⟩ := h
                  replace h := cf rfl h
                  refine wl_skip rfl rfl ?_
                  simp only [Option.some.injEq, Prod.mk.injEq] at h
                  obtain rfl := h
                  have h := hg87; clear hg87
                  refine wl_pure (v := .bool false) tt_ok rfl rfl ?_
                  refine wl_pure tt_ok rfl rfl ?_
                  refine wl_nil ?_
                  refine wx_then ?_
                  refine wc_ret ?_
                  simp only [Option.some.injEq] at h
                  obtain rfl := h
                  exact wx_pf tt_ok (.inl rfl) Try.results4 (Res.tmp rfl Res.nil) rfl

theorem k_hindcastlaw06_InputOne {F : Nat} {p0 : (List UInt8)} {p1 : Int} {r0 : Bool} (h : m_hindcastlaw06_InputOne F p0 p1 = some r0) :
    Pf Try.prog 5 [.string ⟨p0.toArray⟩, .int .i64 p1] (fun w => True) (.bool r0) := by
  unfold m_hindcastlaw06_InputOne at h
  refine pf_of_wc Try.func5 rfl Try.ntmps5 rfl rfl (fun w0 hR => ?_)
  refine wc_seq ?_
  refine wc_region ?_
  refine wl_pure tt_ok rfl rfl ?_
  refine wl_nil ?_
  refine wx_then ?_
  refine wc_seq ?_
  refine wc_seq ?_
  refine wc_region ?_
  refine wl_pure tt_ok rfl rfl ?_
  refine wl_pure (v := .int .i64 (p0.length : Int)) tt_ok rfl rfl ?_
  refine wl_pure (v := .bool (decide ((2000 : Int) < (p0.length : Int)))) tt_ok rfl rfl ?_
  refine wl_nil ?_
  refine wx_then ?_
  refine wc_cond rfl (fun hc => ?_) (fun hc => ?_)
  · replace h := ct hc h
    refine wc_seq ?_
    refine wc_region ?_
    replace h := bsome h; obtain ⟨v10, x10, h⟩ := h
    refine wl_cq Try.call10 rfl rfl rfl (q_pf (k_hindcastlaw06_works x10) (fun _ _ => trivial)) rfl ?_
    refine wl_pure tt_ok rfl rfl ?_
    refine wl_nil ?_
    refine wx_then ?_
    refine wc_ret ?_
    refine wx_then_ret ?_
    simp only [Option.some.injEq] at h
    obtain rfl := h
    exact wx_pf tt_ok (.inl rfl) Try.results5 (Res.tmp rfl Res.nil) rfl
  · replace h := cf hc h
    refine wc_skip ?_
    refine wx_then ?_
    refine wc_seq ?_
    refine wc_region ?_
    refine wl_pure tt_ok rfl rfl ?_
    refine wl_pure tt_ok rfl rfl ?_
    replace h := bsome h; obtain ⟨⟨v14_0, v14_1⟩, x14, h⟩ := h; try dsimp only at h
    refine wl_cs Try.call11 rfl rfl rfl (s_sp (k_input_Unpack x14) pNil (fun _ _ => trivial)) rfl ?_
    rintro _ _ ⟨_, ⟨v14_0a0, v14_0n0, v14_0c0, v14_0B0, v14_0N0, v14_0V0, rfl, rfl⟩, rfl⟩
    refine wl_pure tt_ok rfl rfl ?_
    refine wl_pure tt_ok rfl rfl ?_
    refine wl_pure tt_ok rfl rfl ?_
    refine wl_pure tt_ok rfl rfl ?_
    refine wl_pure tt_ok rfl rfl ?_
    refine wl_nil ?_
    refine wx_then ?_
    refine wc_seq ?_
    refine wc_seq ?_
    refine wc_region ?_
    refine wl_pure tt_ok rfl rfl ?_
    refine wl_pure (v := .bool (v14_1 != (0 : Int))) tt_ok rfl rfl ?_
    refine wl_nil ?_
    refine wx_then ?_
    refine wc_cond rfl (fun hc => ?_) (fun hc => ?_)
    · replace h := ct hc h
      refine wc_seq ?_
      refine wc_region ?_
      refine wl_pure tt_ok rfl rfl ?_
      refine wl_val (v := .int .i64 (v14_0.length : Int)) (val_len tt_ok rfl rfl v14_0N0) rfl ?_
      refine wl_pure (v := .bool ((v14_0.length : Int) == (0 : Int))) tt_ok rfl rfl ?_
      refine wl_pure tt_ok rfl rfl ?_
      replace h := bsome h; obtain ⟨v24, h, hg24⟩ := h
      refine wl_split (t := 22) rfl (fun hc => ?_) (fun hc => ?_)
      · replace h := ct hc h
        replace h := bsome h; obtain ⟨v23, x23, h⟩ := h
        refine wl_run rfl ?_
        refine wl_cq Try.call10 rfl rfl rfl (q_pf (k_hindcastlaw06_works x23) (fun _ _ => trivial)) rfl ?_
        simp only [Option.some.injEq, Prod.mk.injEq] at h
        obtain rfl := h
        have h := hg24; clear hg24
        refine wl_pure (v := .bool v23) tt_ok rfl rfl ?_
        refine wl_pure tt_ok rfl rfl ?_
        refine wl_nil ?_
        refine wx_then ?_
        refine wc_ret ?_
        refine wx_then_ret ?_
        simp only [Option.some.injEq] at h
        obtain rfl := h
        exact wx_pf tt_ok (.inl rfl) Try.results5 (Res.tmp rfl Res.nil) rfl
      · replace h := cf hc h
        refine wl_skip rfl rfl ?_
        simp only [Option.some.injEq, Prod.mk.injEq] at h
        obtain rfl := h
        have h := hg24; clear hg24
        refine wl_pure (v := .bool false) tt_ok rfl rfl ?_
        refine wl_pure tt_ok rfl rfl ?_
        refine wl_nil ?_
        refine wx_then ?_
        refine wc_ret ?_
        refine wx_then_ret ?_
        simp only [Option.some.injEq] at h
        obtain rfl := h
        exact wx_pf tt_ok (.inl rfl) Try.results5 (Res.tmp rfl Res.nil) rfl
    · replace h := cf hc h
      refine wc_skip ?_
      refine wx_then ?_
      refine wc_seq ?_
      refine wc_region ?_
      refine wl_pure tt_ok rfl rfl ?_
      replace h := bsome h; obtain ⟨v26, x26, h⟩ := h
      refine wl_cq Try.call15 rfl rfl rfl (q_pf (k_input_Pack v14_0N0 (vec_cap v14_0V0) x26) (Rds.call (Rds.of_vec v14_0V0) pNil ⟨_, Sel.ha⟩)) rfl ?_
      refine wl_pure tt_ok rfl rfl ?_
      refine wl_val (v := .bool (v26 == p0)) (val_seq tt_ok rfl rfl) rfl ?_
      refine wl_pure tt_ok rfl rfl ?_
      replace h := bsome h; obtain ⟨v33, h, hg33⟩ := h
      refine wl_split (t := 29) rfl (fun hc => ?_) (fun hc => ?_)
      · replace h := ct hc h
        refine wl_run rfl ?_
        refine wl_pure tt_ok rfl rfl ?_
        refine wl_run rfl ?_
        refine wl_val (v := .int .i64 (v14_0.length : Int)) (val_len tt_ok rfl rfl v14_0N0) rfl ?_
        refine wl_run rfl ?_
        refine wl_pure (v := .bool (decide ((v14_0.length : Int) ≤ (4096 : Int)))) tt_ok rfl rfl ?_
        simp only [Option.some.injEq, Prod.mk.injEq] at h
        obtain rfl := h
        have h := hg33; clear hg33
        refine wl_pure (v := .bool (decide ((v14_0.length : Int) ≤ (4096 : Int)))) tt_ok rfl rfl ?_
        refine wl_pure tt_ok rfl rfl ?_
        replace h := bsome h; obtain ⟨v36, h, hg36⟩ := h
        refine wl_split (t := 34) rfl (fun hc => ?_) (fun hc => ?_)
        · replace h := ct hc h
          replace h := bsome h; obtain ⟨v35, x35, h⟩ := h
          refine wl_run rfl ?_
          refine wl_cq Try.call10 rfl rfl rfl (q_pf (k_hindcastlaw06_works x35) (fun _ _ => trivial)) rfl ?_
          simp only [Option.some.injEq, Prod.mk.injEq] at h
          obtain rfl := h
          have h := hg36; clear hg36
          refine wl_pure (v := .bool v35) tt_ok rfl rfl ?_
          refine wl_pure tt_ok rfl rfl ?_
          refine wl_nil ?_
          refine wx_then ?_
          refine wc_ret ?_
          simp only [Option.some.injEq] at h
          obtain rfl := h
          exact wx_pf tt_ok (.inl rfl) Try.results5 (Res.tmp rfl Res.nil) rfl
        · replace h := cf hc h
          refine wl_skip rfl rfl ?_
          simp only [Option.some.injEq, Prod.mk.injEq] at h
          obtain rfl := h
          have h := hg36; clear hg36
          refine wl_pure (v := .bool false) tt_ok rfl rfl ?_
          refine wl_pure tt_ok rfl rfl ?_
          refine wl_nil ?_
          refine wx_then ?_
          refine wc_ret ?_
          simp only [Option.some.injEq] at h
          obtain rfl := h
          exact wx_pf tt_ok (.inl rfl) Try.results5 (Res.tmp rfl Res.nil) rfl
      · replace h := cf hc h
        refine wl_skip rfl rfl ?_
        refine wl_skip rfl rfl ?_
        refine wl_skip rfl rfl ?_
        simp only [Option.some.injEq, Prod.mk.injEq] at h
        obtain rfl := h
        have h := hg33; clear hg33
        refine wl_pure (v := .bool false) tt_ok rfl rfl ?_
        refine wl_pure tt_ok rfl rfl ?_
        replace h := bsome h; obtain ⟨v36, h, hg36⟩ := h
        replace h := cf rfl h
        refine wl_skip rfl rfl ?_
        simp only [Option.some.injEq, Prod.mk.injEq] at h
        obtain rfl := h
        have h := hg36; clear hg36
        refine wl_pure (v := .bool false) tt_ok rfl rfl ?_
        refine wl_pure tt_ok rfl rfl ?_
        refine wl_nil ?_
        refine wx_then ?_
        refine wc_ret ?_
        simp only [Option.some.injEq] at h
        obtain rfl := h
        exact wx_pf tt_ok (.inl rfl) Try.results5 (Res.tmp rfl Res.nil) rfl

theorem k_hindcastlaw06_InputTurned {F : Nat} {p0 : Int} {r0 : Bool} (h : m_hindcastlaw06_InputTurned F p0 = some r0) :
    Pf Try.prog 6 [.int .u8 p0] (fun w => True) (.bool r0) := by
  unfold m_hindcastlaw06_InputTurned at h
  refine pf_of_wc Try.func6 rfl Try.ntmps6 rfl rfl (fun w0 hR => ?_)
  refine wc_seq ?_
  refine wc_region ?_
  refine wl_pure tt_ok rfl rfl ?_
  refine wl_nil ?_
  refine wx_then ?_
  refine wc_seq ?_
  refine wc_region ?_
  refine wl_pure tt_ok rfl rfl ?_
  refine wl_pure (v := .int .u8 (bits .and .u8 p0 (1 : Int))) tt_ok rfl rfl ?_
  refine wl_pure (v := .int .u8 (IntKind.wrap .u8 ((bits .and .u8 p0 (1 : Int)) * 2 ^ (min 1 (IntKind.bits .u8))))) tt_ok rfl rfl ?_
  refine wl_pure tt_ok rfl rfl ?_
  refine wl_pure (v := .int .u8 (p0 / 2 ^ (min 1 (IntKind.bits .u8)))) tt_ok rfl rfl ?_
  refine wl_pure (v := .int .u8 (bits .and .u8 (p0 / 2 ^ (min 1 (IntKind.bits .u8))) (1 : Int))) tt_ok rfl rfl ?_
  refine wl_pure (v := .int .u8 (bits .or .u8 (IntKind.wrap .u8 ((bits .and .u8 p0 (1 : Int)) * 2 ^ (min 1 (IntKind.bits .u8)))) (bits .and .u8 (p0 / 2 ^ (min 1 (IntKind.bits .u8))) (1 : Int)))) tt_ok rfl rfl ?_
  refine wl_pure tt_ok rfl rfl ?_
  refine wl_pure (v := .int .u8 (bits .and .u8 p0 (4 : Int))) tt_ok rfl rfl ?_
  refine wl_pure (v := .int .u8 (IntKind.wrap .u8 ((bits .and .u8 p0 (4 : Int)) * 2 ^ (min 1 (IntKind.bits .u8))))) tt_ok rfl rfl ?_
  refine wl_pure (v := .int .u8 (bits .or .u8 (bits .or .u8 (IntKind.wrap .u8 ((bits .and .u8 p0 (1 : Int)) * 2 ^ (min 1 (IntKind.bits .u8)))) (bits .and .u8 (p0 / 2 ^ (min 1 (IntKind.bits .u8))) (1 : Int))) (IntKind.wrap .u8 ((bits .and .u8 p0 (4 : Int)) * 2 ^ (min 1 (IntKind.bits .u8)))))) tt_ok rfl rfl ?_
  refine wl_pure tt_ok rfl rfl ?_
  refine wl_pure (v := .int .u8 (p0 / 2 ^ (min 1 (IntKind.bits .u8)))) tt_ok rfl rfl ?_
  refine wl_pure (v := .int .u8 (bits .and .u8 (p0 / 2 ^ (min 1 (IntKind.bits .u8))) (4 : Int))) tt_ok rfl rfl ?_
  refine wl_pure (v := .int .u8 (bits .or .u8 (bits .or .u8 (bits .or .u8 (IntKind.wrap .u8 ((bits .and .u8 p0 (1 : Int)) * 2 ^ (min 1 (IntKind.bits .u8)))) (bits .and .u8 (p0 / 2 ^ (min 1 (IntKind.bits .u8))) (1 : Int))) (IntKind.wrap .u8 ((bits .and .u8 p0 (4 : Int)) * 2 ^ (min 1 (IntKind.bits .u8))))) (bits .and .u8 (p0 / 2 ^ (min 1 (IntKind.bits .u8))) (4 : Int)))) tt_ok rfl rfl ?_
  refine wl_pure tt_ok rfl rfl ?_
  refine wl_pure (v := .int .u8 (bits .and .u8 p0 (240 : Int))) tt_ok rfl rfl ?_
  refine wl_pure (v := .int .u8 (bits .or .u8 (bits .or .u8 (bits .or .u8 (bits .or .u8 (IntKind.wrap .u8 ((bits .and .u8 p0 (1 : Int)) * 2 ^ (min 1 (IntKind.bits .u8)))) (bits .and .u8 (p0 / 2 ^ (min 1 (IntKind.bits .u8))) (1 : Int))) (IntKind.wrap .u8 ((bits .and .u8 p0 (4 : Int)) * 2 ^ (min 1 (IntKind.bits .u8))))) (bits .and .u8 (p0 / 2 ^ (min 1 (IntKind.bits .u8))) (4 : Int))) (bits .and .u8 p0 (240 : Int)))) tt_ok rfl rfl ?_
  refine wl_pure tt_ok rfl rfl ?_
  refine wl_nil ?_
  refine wx_then ?_
  refine wc_seq ?_
  refine wc_region ?_
  refine wl_pure tt_ok rfl rfl ?_
  replace h := bsome h; obtain ⟨⟨v30_0, v30_1⟩, x30, h⟩ := h; try dsimp only at h
  refine wl_cq Try.call16 rfl rfl rfl (q_pf (k_input_Dir x30) (fun _ _ => trivial)) rfl ?_
  refine wl_pure tt_ok rfl rfl ?_
  refine wl_pure tt_ok rfl rfl ?_
  refine wl_pure tt_ok rfl rfl ?_
  refine wl_pure tt_ok rfl rfl ?_
  refine wl_pure tt_ok rfl rfl ?_
  refine wl_nil ?_
  refine wx_then ?_
  refine wc_seq ?_
  refine wc_region ?_
  refine wl_pure tt_ok rfl rfl ?_
  replace h := bsome h; obtain ⟨⟨v35_0, v35_1⟩, x35, h⟩ := h; try dsimp only at h
  refine wl_cq Try.call16 rfl rfl rfl (q_pf (k_input_Dir x35) (fun _ _ => trivial)) rfl ?_
  refine wl_pure tt_ok rfl rfl ?_
  refine wl_pure tt_ok rfl rfl ?_
  refine wl_pure tt_ok rfl rfl ?_
  refine wl_pure tt_ok rfl rfl ?_
  refine wl_pure tt_ok rfl rfl ?_
  refine wl_nil ?_
  refine wx_then ?_
  refine wc_seq ?_
  refine wc_region ?_
  refine wl_pure tt_ok rfl rfl ?_
  refine wl_pure (v := .int .u8 (bits .and .u8 p0 (15 : Int))) tt_ok rfl rfl ?_
  replace h := bsome h; obtain ⟨⟨v41_0, v41_1⟩, x41, h⟩ := h; try dsimp only at h
  refine wl_cq Try.call16 rfl rfl rfl (q_pf (k_input_Dir x41) (fun _ _ => trivial)) rfl ?_
  refine wl_pure tt_ok rfl rfl ?_
  refine wl_pure tt_ok rfl rfl ?_
  refine wl_pure tt_ok rfl rfl ?_
  refine wl_pure tt_ok rfl rfl ?_
  refine wl_pure tt_ok rfl rfl ?_
  refine wl_nil ?_
  refine wx_then ?_
  refine wc_seq ?_
  refine wc_region ?_
  refine wl_pure tt_ok rfl rfl ?_
  refine wl_pure tt_ok rfl rfl ?_
  refine wl_pure (v := .int .i32 (IntKind.wrap .i32 (0 - v30_0))) tt_ok rfl rfl ?_
  refine wl_pure (v := .bool (v35_0 == (IntKind.wrap .i32 (0 - v30_0)))) tt_ok rfl rfl ?_
  refine wl_pure tt_ok rfl rfl ?_
  replace h := bsome h; obtain ⟨v53, h, hg53⟩ := h
  refine wl_split (t := 48) rfl (fun hc => ?_) (fun hc => ?_)
  · replace h := ct hc h
    refine wl_run rfl ?_
    refine wl_pure tt_ok rfl rfl ?_
    refine wl_run rfl ?_
    refine wl_pure tt_ok rfl rfl ?_
    refine wl_run rfl ?_
    refine wl_pure (v := .int .i32 (IntKind.wrap .i32 (0 - v30_1))) tt_ok rfl rfl ?_
    refine wl_run rfl ?_
    refine wl_pure (v := .bool (v35_1 == (IntKind.wrap .i32 (0 - v30_1)))) tt_ok rfl rfl ?_
    simp only [Option.some.injEq, Prod.mk.injEq] at h
    obtain rfl := h
    have h := hg53; clear hg53
    refine wl_pure (v := .bool (v35_1 == (IntKind.wrap .i32 (0 - v30_1)))) tt_ok rfl rfl ?_
    refine wl_pure tt_ok rfl rfl ?_
    replace h := bsome h; obtain ⟨v58, h, hg58⟩ := h
    refine wl_split (t := 54) rfl (fun hc => ?_) (fun hc => ?_)
    · replace h := ct hc h
      refine wl_run rfl ?_
      refine wl_pure tt_ok rfl rfl ?_
      refine wl_run rfl ?_
      refine wl_pure tt_ok rfl rfl ?_
      refine wl_run rfl ?_
      refine wl_pure (v := .bool (v41_0 == v30_0)) tt_ok rfl rfl ?_
      simp only [Option.some.injEq, Prod.mk.injEq] at h
      obtain rfl := h
      have h := hg58; clear hg58
      refine wl_pure (v := .bool (v41_0 == v30_0)) tt_ok rfl rfl ?_
      refine wl_pure tt_ok rfl rfl ?_
      replace h := bsome h; obtain ⟨v63, h, hg63⟩ := h
      refine wl_split (t := 59) rfl (fun hc => ?_) (fun hc => ?_)
      · replace h := ct hc h
        refine wl_run rfl ?_
        refine wl_pure tt_ok rfl rfl ?_
        refine wl_run rfl ?_
        refine wl_pure tt_ok rfl rfl ?_
        refine wl_run rfl ?_
        refine wl_pure (v := .bool (v41_1 == v30_1)) tt_ok rfl rfl ?_
        simp only [Option.some.injEq, Prod.mk.injEq] at h
        obtain rfl := h
        have h := hg63; clear hg63
        refine wl_pure (v := .bool (v41_1 == v30_1)) tt_ok rfl rfl ?_
        refine wl_pure tt_ok rfl rfl ?_
        replace h := bsome h; obtain ⟨v67, h, hg67⟩ := h
        refine wl_split (t := 64) rfl (fun hc => ?_) (fun hc => ?_)
        · replace h := ct hc h
          refine wl_run rfl ?_
          refine wl_pure tt_ok rfl rfl ?_
          refine wl_run rfl ?_
          refine wl_pure (v := .bool (decide ((-1 : Int) ≤ v30_0))) tt_ok rfl rfl ?_
          simp only [Option.some.injEq, Prod.mk.injEq] at h
          obtain rfl := h
          have h := hg67; clear hg67
          refine wl_pure (v := .bool (decide ((-1 : Int) ≤ v30_0))) tt_ok rfl rfl ?_
          refine wl_pure tt_ok rfl rfl ?_
          replace h := bsome h; obtain ⟨v71, h, hg71⟩ := h
          refine wl_split (t := 68) rfl (fun hc => ?_) (fun hc => ?_)
          · replace h := ct hc h
            refine wl_run rfl ?_
            refine wl_pure tt_ok rfl rfl ?_
            refine wl_run rfl ?_
            refine wl_pure (v := .bool (decide (v30_0 ≤ (1 : Int)))) tt_ok rfl rfl ?_
            simp only [Option.some.injEq, Prod.mk.injEq] at h
            obtain rfl := h
            have h := hg71; clear hg71
            refine wl_pure (v := .bool (decide (v30_0 ≤ (1 : Int)))) tt_ok rfl rfl ?_
            refine wl_pure tt_ok rfl rfl ?_
            replace h := bsome h; obtain ⟨v75, h, hg75⟩ := h
            refine wl_split (t := 72) rfl (fun hc => ?_) (fun hc => ?_)
            · replace h := ct hc h
              refine wl_run rfl ?_
              refine wl_pure tt_ok rfl rfl ?_
              refine wl_run rfl ?_
              refine wl_pure (v := .bool (decide ((-1 : Int) ≤ v30_1))) tt_ok rfl rfl ?_
              simp only [Option.some.injEq, Prod.mk.injEq] at h
              obtain rfl := h
              have h := hg75; clear hg75
              refine wl_pure (v := .bool (decide ((-1 : Int) ≤ v30_1))) tt_ok rfl rfl ?_
              refine wl_pure tt_ok rfl rfl ?_
              replace h := bsome h; obtain ⟨v79, h, hg79⟩ := h
              refine wl_split (t := 76) rfl (fun hc => ?_) (fun hc => ?_)
              · replace h := ct hc h
                refine wl_run rfl ?_
                refine wl_pure tt_ok rfl rfl ?_
                refine wl_run rfl ?_
                refine wl_pure (v := .bool (decide (v30_1 ≤ (1 : Int)))) tt_ok rfl rfl ?_
                simp only [Option.some.injEq, Prod.mk.injEq] at h
                obtain rfl := h
                have h := hg79; clear hg79
                refine wl_pure (v := .bool (decide (v30_1 ≤ (1 : Int)))) tt_ok rfl rfl ?_
                refine wl_pure tt_ok rfl rfl ?_
                replace h := bsome h; obtain ⟨v82, h, hg82⟩ := h
                refine wl_split (t := 80) rfl (fun hc => ?_) (fun hc => ?_)
                · replace h := ct hc h
                  replace h := bsome h; obtain ⟨v81, x81, h⟩ := h
                  refine wl_run rfl ?_
                  refine wl_cq Try.call10 rfl rfl rfl (q_pf (k_hindcastlaw06_works x81) (fun _ _ => trivial)) rfl ?_
                  simp only [Option.some.injEq, Prod.mk.injEq] at h
                  obtain rfl := h
                  have h := hg82; clear hg82
                  refine wl_pure (v := .bool v81) tt_ok rfl rfl ?_
                  refine wl_pure tt_ok rfl rfl ?_
                  refine wl_nil ?_
                  refine wx_then ?_
                  refine wc_ret ?_
                  simp only [Option.some.injEq] at h
                  obtain rfl := h
                  exact wx_pf tt_ok (.inl rfl) Try.results6 (Res.tmp rfl Res.nil) rfl
                · replace h := cf hc h
                  refine wl_skip rfl rfl ?_
                  simp only [Option.some.injEq, Prod.mk.injEq] at h
                  obtain rfl := h
                  have h := hg82; clear hg82
                  refine wl_pure (v := .bool false) tt_ok rfl rfl ?_
                  refine wl_pure tt_ok rfl rfl ?_
                  refine wl_nil ?_
                  refine wx_then ?_
                  refine wc_ret ?_
                  simp only [Option.some.injEq] at h
                  obtain rfl := h
                  exact wx_pf tt_ok (.inl rfl) Try.results6 (Res.tmp rfl Res.nil) rfl
              · replace h := cf hc h
                refine wl_skip rfl rfl ?_
                refine wl_skip rfl rfl ?_
                simp only [Option.some.injEq, Prod.mk.injEq] at h
                obtain rfl := h
                have h := hg79; clear hg79
                refine wl_pure (v := .bool false) tt_ok rfl rfl ?_
                refine wl_pure tt_ok rfl rfl ?_
                replace h := bsome h; obtain ⟨v82, h, hg82⟩ := h
                replace h := cf rfl h
                refine wl_skip rfl rfl ?_
                simp only [Option.some.injEq, Prod.mk.injEq] at h
                obtain rfl := h
                have h := hg82; clear hg82
                refine wl_pure (v := .bool false) tt_ok rfl rfl ?_
                refine wl_pure tt_ok rfl rfl ?_
                refine wl_nil ?_
                refine wx_then ?_
                refine wc_ret ?_
                simp only [Option.some.injEq] at h
                obtain rfl := h
                exact wx_pf tt_ok (.inl rfl) Try.results6 (Res.tmp rfl Res.nil) rfl
            · replace h := cf hc h
              refine wl_skip rfl rfl ?_
              refine wl_skip rfl rfl ?_
              simp only [Option.some.injEq, Prod.mk.injEq] at h
              obtain rfl := h
              have h := hg75; clear hg75
              refine wl_pure (v := .bool false) tt_ok rfl rfl ?_
              refine wl_pure tt_ok rfl rfl ?_
              replace h := bsome h; obtain ⟨v79, h, hg79⟩ := h
              replace h := cf rfl h
              refine wl_skip rfl rfl ?_
              refine wl_skip rfl rfl ?_
              simp only [Option.some.injEq, Prod.mk.injEq] at h
              obtain rfl := h
              have h := hg79; clear hg79
              refine wl_pure (v := .bool false) tt_ok rfl rfl ?_
              refine wl_pure tt_ok rfl rfl ?_
              replace h := bsome h; obtain ⟨v82, h, hg82⟩ := h
              replace h := cf rfl h
              refine wl_skip rfl rfl ?_
              simp only [Option.some.injEq, Prod.mk.injEq] at h
              obtain rfl := h
              have h := hg82; clear hg82
              refine wl_pure (v := .bool false) tt_ok rfl rfl ?_
              refine wl_pure tt_ok rfl rfl ?_
              refine wl_nil ?_
              refine wx_then ?_
              refine wc_ret ?_
              simp only [Option.some.injEq] at h
              obtain rfl := h
              exact wx_pf tt_ok (.inl rfl) Try.results6 (Res.tmp rfl Res.nil) rfl
          · replace h := cf hc h
            refine wl_skip rfl rfl ?_
            refine wl_skip rfl rfl ?_
            simp only [Option.some.injEq, Prod.mk.injEq] at h
            obtain rfl := h
            have h := hg71; clear hg71
            refine wl_pure (v := .bool false) tt_ok rfl rfl ?_
            refine wl_pure tt_ok rfl rfl ?_
            replace h := bsome h; obtain ⟨v75, h, hg75⟩ := h
            replace h := cf rfl h
            refine wl_skip rfl rfl ?_
            refine wl_skip rfl rfl ?_
            simp only [Option.some.injEq, Prod.mk.injEq] at h
            obtain rfl := h
            have h := hg75; clear hg75
            refine wl_pure (v := .bool false) tt_ok rfl rfl ?_
            refine wl_pure tt_ok rfl rfl ?_
            replace h := bsome h; obtain ⟨v79, h, hg79⟩ := h
            replace h := cf rfl h
            refine wl_skip rfl rfl ?_
            refine wl_skip rfl rfl ?_
            simp only [Option.some.injEq, Prod.mk.injEq] at h
            obtain rfl := h
            have h := hg79; clear hg79
            refine wl_pure (v := .bool false) tt_ok rfl rfl ?_
            refine wl_pure tt_ok rfl rfl ?_
            replace h := bsome h; obtain ⟨v82, h, hg82⟩ := h
            replace h := cf rfl h
            refine wl_skip rfl rfl ?_
            simp only [Option.some.injEq, Prod.mk.injEq] at h
            obtain rfl := h
            have h := hg82; clear hg82
            refine wl_pure (v := .bool false) tt_ok rfl rfl ?_
            refine wl_pure tt_ok rfl rfl ?_
            refine wl_nil ?_
            refine wx_then ?_
            refine wc_ret ?_
            simp only [Option.some.injEq] at h
            obtain rfl := h
            exact wx_pf tt_ok (.inl rfl) Try.results6 (Res.tmp rfl Res.nil) rfl
        · replace h := cf hc h
          refine wl_skip rfl rfl ?_
          refine wl_skip rfl rfl ?_
          simp only [Option.some.injEq, Prod.mk.injEq] at h
          obtain rfl := h
          have h := hg67; clear hg67
          refine wl_pure (v := .bool false) tt_ok rfl rfl ?_
          refine wl_pure tt_ok rfl rfl ?_
          replace h := bsome h; obtain ⟨v71, h, hg71⟩ := h
          replace h := cf rfl h
          refine wl_skip rfl rfl ?_
          refine wl_skip rfl rfl ?_
          simp only [Option.some.injEq, Prod.mk.injEq] at h
          obtain rfl := h
          have h := hg71; clear hg71
          refine wl_pure (v := .bool false) tt_ok rfl rfl ?_
          refine wl_pure tt_ok rfl rfl ?_
          replace h := bsome h; obtain ⟨v75, h, hg75⟩ := h
          replace h := cf rfl h
          refine wl_skip rfl rfl ?_
          refine wl_skip rfl rfl ?_
          simp only [Option.some.injEq, Prod.mk.injEq] at h
          obtain rfl := h
          have h := hg75; clear hg75
          refine wl_pure (v := .bool false) tt_ok rfl rfl ?_
          refine wl_pure tt_ok rfl rfl ?_
          replace h := bsome h; obtain ⟨v79, h, hg79⟩ := h
          replace h := cf rfl h
          refine wl_skip rfl rfl ?_
          refine wl_skip rfl rfl ?_
          simp only [Option.some.injEq, Prod.mk.injEq] at h
          obtain rfl := h
          have h := hg79; clear hg79
          refine wl_pure (v := .bool false) tt_ok rfl rfl ?_
          refine wl_pure tt_ok rfl rfl ?_
          replace h := bsome h; obtain ⟨v82, h, hg82⟩ := h
          replace h := cf rfl h
          refine wl_skip rfl rfl ?_
          simp only [Option.some.injEq, Prod.mk.injEq] at h
          obtain rfl := h
          have h := hg82; clear hg82
          refine wl_pure (v := .bool false) tt_ok rfl rfl ?_
          refine wl_pure tt_ok rfl rfl ?_
          refine wl_nil ?_
          refine wx_then ?_
          refine wc_ret ?_
          simp only [Option.some.injEq] at h
          obtain rfl := h
          exact wx_pf tt_ok (.inl rfl) Try.results6 (Res.tmp rfl Res.nil) rfl
      · replace h := cf hc h
        refine wl_skip rfl rfl ?_
        refine wl_skip rfl rfl ?_
        refine wl_skip rfl rfl ?_
        simp only [Option.some.injEq, Prod.mk.injEq] at h
        obtain rfl := h
        have h := hg63; clear hg63
        refine wl_pure (v := .bool false) tt_ok rfl rfl ?_
        refine wl_pure tt_ok rfl rfl ?_
        replace h := bsome h; obtain ⟨v67, h, hg67⟩ := h
        replace h := cf rfl h
        refine wl_skip rfl rfl ?_
        refine wl_skip rfl rfl ?_
        simp only [Option.some.injEq, Prod.mk.injEq] at h
        obtain rfl := h
        have h := hg67; clear hg67
        refine wl_pure (v := .bool false) tt_ok rfl rfl ?_
        refine wl_pure tt_ok rfl rfl ?_
        replace h := bsome h; obtain ⟨v71, h, hg71⟩ := h
        replace h := cf rfl h
        refine wl_skip rfl rfl ?_
        refine wl_skip rfl rfl ?_
        simp only [Option.some.injEq, Prod.mk.injEq] at h
        obtain rfl := h
        have h := hg71; clear hg71
        refine wl_pure (v := .bool false) tt_ok rfl rfl ?_
        refine wl_pure tt_ok rfl rfl ?_
        replace h := bsome h; obtain ⟨v75, h, hg75⟩ := h
        replace h := cf rfl h
        refine wl_skip rfl rfl ?_
        refine wl_skip rfl rfl ?_
        simp only [Option.some.injEq, Prod.mk.injEq] at h
        obtain rfl := h
        have h := hg75; clear hg75
        refine wl_pure (v := .bool false) tt_ok rfl rfl ?_
        refine wl_pure tt_ok rfl rfl ?_
        replace h := bsome h; obtain ⟨v79, h, hg79⟩ := h
        replace h := cf rfl h
        refine wl_skip rfl rfl ?_
        refine wl_skip rfl rfl ?_
        simp only [Option.some.injEq, Prod.mk.injEq] at h
        obtain rfl := h
        have h := hg79; clear hg79
        refine wl_pure (v := .bool false) tt_ok rfl rfl ?_
        refine wl_pure tt_ok rfl rfl ?_
        replace h := bsome h; obtain ⟨v82, h, hg82⟩ := h
        replace h := cf rfl h
        refine wl_skip rfl rfl ?_
        simp only [Option.some.injEq, Prod.mk.injEq] at h
        obtain rfl := h
        have h := hg82; clear hg82
        refine wl_pure (v := .bool false) tt_ok rfl rfl ?_
        refine wl_pure tt_ok rfl rfl ?_
        refine wl_nil ?_
        refine wx_then ?_
        refine wc_ret ?_
        simp only [Option.some.injEq] at h
        obtain rfl := h
        exact wx_pf tt_ok (.inl rfl) Try.results6 (Res.tmp rfl Res.nil) rfl
    · replace h := cf hc h
      refine wl_skip rfl rfl ?_
      refine wl_skip rfl rfl ?_
      refine wl_skip rfl rfl ?_
      simp only [Option.some.injEq, Prod.mk.injEq] at h
      obtain rfl := h
      have h := hg58; clear hg58
      refine wl_pure (v := .bool false) tt_ok rfl rfl ?_
      refine wl_pure tt_ok rfl rfl ?_
      replace h := bsome h; obtain ⟨v63, h, hg63⟩ := h
      replace h := cf rfl h
      refine wl_skip rfl rfl ?_
      refine wl_skip rfl rfl ?_
      refine wl_skip rfl rfl ?_
      simp only [Option.some.injEq, Prod.mk.injEq] at h
      obtain rfl := h
      have h := hg63; clear hg63
      refine wl_pure (v := .bool false) tt_ok rfl rfl ?_
      refine wl_pure tt_ok rfl rfl ?_
      replace h := bsome h; obtain ⟨v67, h, hg67⟩ := h
      replace h := cf rfl h
      refine wl_skip rfl rfl ?_
      refine wl_skip rfl rfl ?_
      simp only [Option.some.injEq, Prod.mk.injEq] at h
      obtain rfl := h
      have h := hg67; clear hg67
      refine wl_pure (v := .bool false) tt_ok rfl rfl ?_
      refine wl_pure tt_ok rfl rfl ?_
      replace h := bsome h; obtain ⟨v71, h, hg71⟩ := h
      replace h := cf rfl h
      refine wl_skip rfl rfl ?_
      refine wl_skip rfl rfl ?_
      simp only [Option.some.injEq, Prod.mk.injEq] at h
      obtain rfl := h
      have h := hg71; clear hg71
      refine wl_pure (v := .bool false) tt_ok rfl rfl ?_
      refine wl_pure tt_ok rfl rfl ?_
      replace h := bsome h; obtain ⟨v75, h, hg75⟩ := h
      replace h := cf rfl h
      refine wl_skip rfl rfl ?_
      refine wl_skip rfl rfl ?_
      simp only [Option.some.injEq, Prod.mk.injEq] at h
      obtain rfl := h
      have h := hg75; clear hg75
      refine wl_pure (v := .bool false) tt_ok rfl rfl ?_
      refine wl_pure tt_ok rfl rfl ?_
      replace h := bsome h; obtain ⟨v79, h, hg79⟩ := h
      replace h := cf rfl h
      refine wl_skip rfl rfl ?_
      refine wl_skip rfl rfl ?_
      simp only [Option.some.injEq, Prod.mk.injEq] at h
      obtain rfl := h
      have h := hg79; clear hg79
      refine wl_pure (v := .bool false) tt_ok rfl rfl ?_
      refine wl_pure tt_ok rfl rfl ?_
      replace h := bsome h; obtain ⟨v82, h, hg82⟩ := h
      replace h := cf rfl h
      refine wl_skip rfl rfl ?_
      simp only [Option.some.injEq, Prod.mk.injEq] at h
      obtain rfl := h
      have h := hg82; clear hg82
      refine wl_pure (v := .bool false) tt_ok rfl rfl ?_
      refine wl_pure tt_ok rfl rfl ?_
      refine wl_nil ?_
      refine wx_then ?_
      refine wc_ret ?_
      simp only [Option.some.injEq] at h
      obtain rfl := h
      exact wx_pf tt_ok (.inl rfl) Try.results6 (Res.tmp rfl Res.nil) rfl
  · replace h := cf hc h
    refine wl_skip rfl rfl ?_
    refine wl_skip rfl rfl ?_
    refine wl_skip rfl rfl ?_
    refine wl_skip rfl rfl ?_
    simp only [Option.some.injEq, Prod.mk.injEq] at h
    obtain rfl := h
    have h := hg53; clear hg53
    refine wl_pure (v := .bool false) tt_ok rfl rfl ?_
    refine wl_pure tt_ok rfl rfl ?_
    replace h := bsome h; obtain ⟨v58, h, hg58⟩ := h
    replace h := cf rfl h
    refine wl_skip rfl rfl ?_
    refine wl_skip rfl rfl ?_
    refine wl_skip rfl rfl ?_
    simp only [Option.some.injEq, Prod.mk.injEq] at h
    obtain rfl := h
    have h := hg58; clear hg58
    refine wl_pure (v := .bool false) tt_ok rfl rfl ?_
    refine wl_pure tt_ok rfl rfl ?_
    replace h := bsome h; obtain ⟨v63, h, hg63⟩ := h
    replace h := cf rfl h
    refine wl_skip rfl rfl ?_
    refine wl_skip rfl rfl ?_
    refine wl_skip rfl rfl ?_
    simp only [Option.some.injEq, Prod.mk.injEq] at h
    obtain rfl := h
    have h := hg63; clear hg63
    refine wl_pure (v := .bool false) tt_ok rfl rfl ?_
    refine wl_pure tt_ok rfl rfl ?_
    replace h := bsome h; obtain ⟨v67, h, hg67⟩ := h
    replace h := cf rfl h
    refine wl_skip rfl rfl ?_
    refine wl_skip rfl rfl ?_
    simp only [Option.some.injEq, Prod.mk.injEq] at h
    obtain rfl := h
    have h := hg67; clear hg67
    refine wl_pure (v := .bool false) tt_ok rfl rfl ?_
    refine wl_pure tt_ok rfl rfl ?_
    replace h := bsome h; obtain ⟨v71, h, hg71⟩ := h
    replace h := cf rfl h
    refine wl_skip rfl rfl ?_
    refine wl_skip rfl rfl ?_
    simp only [Option.some.injEq, Prod.mk.injEq] at h
    obtain rfl := h
    have h := hg71; clear hg71
    refine wl_pure (v := .bool false) tt_ok rfl rfl ?_
    refine wl_pure tt_ok rfl rfl ?_
    replace h := bsome h; obtain ⟨v75, h, hg75⟩ := h
    replace h := cf rfl h
    refine wl_skip rfl rfl ?_
    refine wl_skip rfl rfl ?_
    simp only [Option.some.injEq, Prod.mk.injEq] at h
    obtain rfl := h
    have h := hg75; clear hg75
    refine wl_pure (v := .bool false) tt_ok rfl rfl ?_
    refine wl_pure tt_ok rfl rfl ?_
    replace h := bsome h; obtain ⟨v79, h, hg79⟩ := h
    replace h := cf rfl h
    refine wl_skip rfl rfl ?_
    refine wl_skip rfl rfl ?_
    simp only [Option.some.injEq, Prod.mk.injEq] at h
    obtain rfl := h
    have h := hg79; clear hg79
    refine wl_pure (v := .bool false) tt_ok rfl rfl ?_
    refine wl_pure tt_ok rfl rfl ?_
    replace h := bsome h; obtain ⟨v82, h, hg82⟩ := h
    replace h := cf rfl h
    refine wl_skip rfl rfl ?_
    simp only [Option.some.injEq, Prod.mk.injEq] at h
    obtain rfl := h
    have h := hg82; clear hg82
    refine wl_pure (v := .bool false) tt_ok rfl rfl ?_
    refine wl_pure tt_ok rfl rfl ?_
    refine wl_nil ?_
    refine wx_then ?_
    refine wc_ret ?_
    simp only [Option.some.injEq] at h
    obtain rfl := h
    exact wx_pf tt_ok (.inl rfl) Try.results6 (Res.tmp rfl Res.nil) rfl

theorem k_hindcastref06_bit {F : Nat} {p0 : Int} {p1 : Int} {r0 : Bool} (h : m_hindcastref06_bit F p0 p1 = some r0) :
    Pf Try.prog 42 [.int .u8 p0, .int .i64 p1] (fun w => True) (.bool r0) := by
  unfold m_hindcastref06_bit at h
  refine pf_of_wc Try.func42 rfl Try.ntmps42 rfl rfl (fun w0 hR => ?_)
  refine wc_seq ?_
  refine wc_region ?_
  refine wl_pure tt_ok rfl rfl ?_
  refine wl_nil ?_
  refine wx_then ?_
  refine wc_seq ?_
  refine wc_region ?_
  refine wl_pure tt_ok rfl rfl ?_
  refine wl_pure (v := .int .i64 (IntKind.wrap .i64 p0)) tt_ok rfl rfl ?_
  refine wl_pure tt_ok rfl rfl ?_
  replace h := bsome h; obtain ⟨v8, x8, h⟩ := h
  refine wl_val (v := .int .i64 v8) (val_shr rfl rfl x8) rfl ?_
  refine wl_pure (v := .int .i64 (Int.tmod v8 2)) tt_ok rfl rfl ?_
  refine wl_pure (v := .bool ((Int.tmod v8 2) == (1 : Int))) tt_ok rfl rfl ?_
  refine wl_pure tt_ok rfl rfl ?_
  refine wl_nil ?_
  refine wx_then ?_
  refine wc_ret ?_
  simp only [Option.some.injEq] at h
  obtain rfl := h
  exact wx_pf tt_ok (.inl rfl) Try.results42 (Res.tmp rfl Res.nil) rfl

theorem k_hindcastref06_against {F : Nat} {p0 : Bool} {p1 : Bool} {r0 : Int} (h : m_hindcastref06_against F p0 p1 = some r0) :
    Pf Try.prog 41 [.bool p0, .bool p1] (fun w => True) (.int .i32 r0) := by
  unfold m_hindcastref06_against at h
  refine pf_of_wc Try.func41 rfl Try.ntmps41 rfl rfl (fun w0 hR => ?_)
  refine wc_seq ?_
  refine wc_region ?_
  refine wl_pure tt_ok rfl rfl ?_
  refine wl_nil ?_
  refine wx_then ?_
  refine wc_seq ?_
  refine wc_seq ?_
  refine wc_region ?_
  refine wl_pure tt_ok rfl rfl ?_
  refine wl_pure tt_ok rfl rfl ?_
  replace h := bsome h; obtain ⟨v9, h, hg9⟩ := h
  refine wl_split (t := 6) rfl (fun hc => ?_) (fun hc => ?_)
  · replace h := ct hc h
    refine wl_run rfl ?_
    refine wl_pure tt_ok rfl rfl ?_
    refine wl_run rfl ?_
    refine wl_pure (v := .bool (!p1)) tt_ok rfl rfl ?_
    simp only [Option.some.injEq, Prod.mk.injEq] at h
    obtain rfl := h
    have h := hg9; clear hg9
    refine wl_pure (v := .bool (!p1)) tt_ok rfl rfl ?_
    refine wl_nil ?_
    refine wx_then ?_
    refine wc_cond rfl (fun hc => ?_) (fun hc => ?_)
    · replace h := ct hc h
      refine wc_seq ?_
      refine wc_region ?_
      refine wl_pure tt_ok rfl rfl ?_
      refine wl_nil ?_
      refine wx_then ?_
      refine wc_ret ?_
      refine wx_then_ret ?_
      simp only [Option.some.injEq] at h
      obtain rfl := h
      exact wx_pf tt_ok (.inl rfl) Try.results41 (Res.tmp rfl Res.nil) rfl
    · replace h := cf hc h
      refine wc_skip ?_
      refine wx_then ?_
      refine wc_seq ?_
      refine wc_seq ?_
      refine wc_region ?_
      refine wl_pure tt_ok rfl rfl ?_
      refine wl_pure tt_ok rfl rfl ?_
      replace h := bsome h; obtain ⟨v14, h, hg14⟩ := h
      refine wl_split (t := 11) rfl (fun hc => ?_) (fun hc => ?_)
      · replace h := ct hc h
        refine wl_run rfl ?_
        refine wl_pure tt_ok rfl rfl ?_
        refine wl_run rfl ?_
        refine wl_pure (v := .bool (!p0)) tt_ok rfl rfl ?_
        simp only [Option.some.injEq, Prod.mk.injEq] at h
        obtain rfl := h
        have h := hg14; clear hg14
        refine wl_pure (v := .bool (!p0)) tt_ok rfl rfl ?_
        refine wl_nil ?_
        refine wx_then ?_
        refine wc_cond rfl (fun hc => ?_) (fun hc => ?_)
        · replace h := ct hc h
          refine wc_seq ?_
          refine wc_region ?_
          refine wl_pure tt_ok rfl rfl ?_
          refine wl_nil ?_
          refine wx_then ?_
          refine wc_ret ?_
          refine wx_then_ret ?_
          simp only [Option.some.injEq] at h
          obtain rfl := h
          exact wx_pf tt_ok (.inl rfl) Try.results41 (Res.tmp rfl Res.nil) rfl
        · replace h := cf hc h
          refine wc_skip ?_
          refine wx_then ?_
          refine wc_seq ?_
          refine wc_region ?_
          refine wl_pure tt_ok rfl rfl ?_
          refine wl_nil ?_
          refine wx_then ?_
          refine wc_ret ?_
          simp only [Option.some.injEq] at h
          obtain rfl := h
          exact wx_pf tt_ok (.inl rfl) Try.results41 (Res.tmp rfl Res.nil) rfl
      · replace h := cf hc h
        refine wl_skip rfl rfl ?_
        refine wl_skip rfl rfl ?_
        simp only [Option.some.injEq, Prod.mk.injEq] at h
        obtain rfl := h
        have h := hg14; clear hg14
        refine wl_pure (v := .bool false) tt_ok rfl rfl ?_
        refine wl_nil ?_
        refine wx_then ?_
        replace h := cf rfl h
        refine wc_cond_false rfl ?_
        refine wc_skip ?_
        refine wx_then ?_
        refine wc_seq ?_
        refine wc_region ?_
        refine wl_pure tt_ok rfl rfl ?_
        refine wl_nil ?_
        refine wx_then ?_
        refine wc_ret ?_
        simp only [Option.some.injEq] at h
        obtain rfl := h
        exact wx_pf tt_ok (.inl rfl) Try.results41 (Res.tmp rfl Res.nil) rfl
  · replace h := cf hc h
    refine wl_skip rfl rfl ?_
    refine wl_skip rfl rfl ?_
    simp only [Option.some.injEq, Prod.mk.injEq] at h
    obtain rfl := h
    have h := hg9; clear hg9
    refine wl_pure (v := .bool false) tt_ok rfl rfl ?_
    refine wl_nil ?_
    refine wx_then ?_
    replace h := cf rfl h
    refine wc_cond_false rfl ?_
    refine wc_skip ?_
    refine wx_then ?_
    refine wc_seq ?_
    refine wc_seq ?_
    refine wc_region ?_
    refine wl_pure tt_ok rfl rfl ?_
    refine wl_pure tt_ok rfl rfl ?_
    replace h := bsome h; obtain ⟨v14, h, hg14⟩ := h
    refine wl_split (t := 11) rfl (fun hc => ?_) (fun hc => ?_)
    · replace h := ct hc h
      refine wl_run rfl ?_
      refine wl_pure tt_ok rfl rfl ?_
      refine wl_run rfl ?_
      refine wl_pure (v := .bool (!p0)) tt_ok rfl rfl ?_
      simp only [Option.some.injEq, Prod.mk.injEq] at h
      obtain rfl := h
      have h := hg14; clear hg14
      refine wl_pure (v := .bool (!p0)) tt_ok rfl rfl ?_
      refine wl_nil ?_
      refine wx_then ?_
      refine wc_cond rfl (fun hc => ?_) (fun hc => ?_)
      · replace h := ct hc h
        refine wc_seq ?_
        refine wc_region ?_
        refine wl_pure tt_ok rfl rfl ?_
        refine wl_nil ?_
        refine wx_then ?_
        refine wc_ret ?_
        refine wx_then_ret ?_
        simp only [Option.some.injEq] at h
        obtain rfl := h
        exact wx_pf tt_ok (.inl rfl) Try.results41 (Res.tmp rfl Res.nil) rfl
      · replace h := cf hc h
        refine wc_skip ?_
        refine wx_then ?_
        refine wc_seq ?_
        refine wc_region ?_
        refine wl_pure tt_ok rfl rfl ?_
        refine wl_nil ?_
        refine wx_then ?_
        refine wc_ret ?_
        simp only [Option.some.injEq] at h
        obtain rfl := h
        exact wx_pf tt_ok (.inl rfl) Try.results41 (Res.tmp rfl Res.nil) rfl
    · replace h := cf hc h
      refine wl_skip rfl rfl ?_
      refine wl_skip rfl rfl ?_
      simp only [Option.some.injEq, Prod.mk.injEq] at h
      obtain rfl := h
      have h := hg14; clear hg14
      refine wl_pure (v := .bool false) tt_ok rfl rfl ?_
      refine wl_nil ?_
      refine wx_then ?_
      replace h := cf rfl h
      refine wc_cond_false rfl ?_
      refine wc_skip ?_
      refine wx_then ?_
      refine wc_seq ?_
      refine wc_region ?_
      refine wl_pure tt_ok rfl rfl ?_
      refine wl_nil ?_
      refine wx_then ?_
      refine wc_ret ?_
      simp only [Option.some.injEq] at h
      obtain rfl := h
      exact wx_pf tt_ok (.inl rfl) Try.results41 (Res.tmp rfl Res.nil) rfl

theorem k_hindcastref06_Dir {F : Nat} {p0 : Int} {r0 : Int} {r1 : Int} (h : m_hindcastref06_Dir F p0 = some (r0, r1)) :
    Pf Try.prog 17 [.int .u8 p0] (fun w => True) (.tuple #[.int .i32 r0, .int .i32 r1]) := by
  unfold m_hindcastref06_Dir at h
  refine pf_of_wc Try.func17 rfl Try.ntmps17 rfl rfl (fun w0 hR => ?_)
  refine wc_seq ?_
  refine wc_region ?_
  refine wl_pure tt_ok rfl rfl ?_
  refine wl_pure tt_ok rfl rfl ?_
  refine wl_nil ?_
  refine wx_then ?_
  refine wc_seq ?_
  refine wc_region ?_
  refine wl_pure tt_ok rfl rfl ?_
  replace h := bsome h; obtain ⟨v5, x5, h⟩ := h
  refine wl_cq Try.call42 rfl rfl rfl (q_pf (k_hindcastref06_bit x5) (fun _ _ => trivial)) rfl ?_
  refine wl_pure tt_ok rfl rfl ?_
  replace h := bsome h; obtain ⟨v7, x7, h⟩ := h
  refine wl_cq Try.call42 rfl rfl rfl (q_pf (k_hindcastref06_bit x7) (fun _ _ => trivial)) rfl ?_
  replace h := bsome h; obtain ⟨v8, x8, h⟩ := h
  refine wl_cq Try.call41 rfl rfl rfl (q_pf (k_hindcastref06_against x8) (fun _ _ => trivial)) rfl ?_
  refine wl_pure tt_ok rfl rfl ?_
  replace h := bsome h; obtain ⟨v10, x10, h⟩ := h
  refine wl_cq Try.call42 rfl rfl rfl (q_pf (k_hindcastref06_bit x10) (fun _ _ => trivial)) rfl ?_
  refine wl_pure tt_ok rfl rfl ?_
  replace h := bsome h; obtain ⟨v12, x12, h⟩ := h
  refine wl_cq Try.call42 rfl rfl rfl (q_pf (k_hindcastref06_bit x12) (fun _ _ => trivial)) rfl ?_
  replace h := bsome h; obtain ⟨v13, x13, h⟩ := h
  refine wl_cq Try.call41 rfl rfl rfl (q_pf (k_hindcastref06_against x13) (fun _ _ => trivial)) rfl ?_
  refine wl_pure tt_ok rfl rfl ?_
  refine wl_pure tt_ok rfl rfl ?_
  refine wl_nil ?_
  refine wx_then ?_
  refine wc_ret ?_
  simp only [Option.some.injEq, Prod.mk.injEq] at h
  obtain ⟨rfl, rfl⟩ := h
  exact wx_pf tt_ok (.inl rfl) Try.results17 (Res.tmp rfl (Res.tmp rfl Res.nil)) rfl

theorem k_input_Fire {F : Nat} {p0 : Int} {r0 : Bool} (h : m_input_Fire F p0 = some r0) :
    Pf Try.prog 20 [.int .u8 p0] (fun w => True) (.bool r0) := by
  unfold m_input_Fire at h
  refine pf_of_wc Try.func20 rfl Try.ntmps20 rfl rfl (fun w0 hR => ?_)
  refine wc_seq ?_
  refine wc_region ?_
  refine wl_pure tt_ok rfl rfl ?_
  refine wl_nil ?_
  refine wx_then ?_
  refine wc_seq ?_
  refine wc_region ?_
  refine wl_pure tt_ok rfl rfl ?_
  refine wl_pure (v := .int .u8 (bits .and .u8 p0 (16 : Int))) tt_ok rfl rfl ?_
  refine wl_pure (v := .bool ((bits .and .u8 p0 (16 : Int)) != (0 : Int))) tt_ok rfl rfl ?_
  refine wl_pure tt_ok rfl rfl ?_
  refine wl_nil ?_
  refine wx_then ?_
  refine wc_ret ?_
  simp only [Option.some.injEq] at h
  obtain rfl := h
  exact wx_pf tt_ok (.inl rfl) Try.results20 (Res.tmp rfl Res.nil) rfl

theorem k_hindcastref06_Fire {F : Nat} {p0 : Int} {r0 : Bool} (h : m_hindcastref06_Fire F p0 = some r0) :
    Pf Try.prog 21 [.int .u8 p0] (fun w => True) (.bool r0) := by
  unfold m_hindcastref06_Fire at h
  refine pf_of_wc Try.func21 rfl Try.ntmps21 rfl rfl (fun w0 hR => ?_)
  refine wc_seq ?_
  refine wc_region ?_
  refine wl_pure tt_ok rfl rfl ?_
  refine wl_nil ?_
  refine wx_then ?_
  refine wc_seq ?_
  refine wc_region ?_
  refine wl_pure tt_ok rfl rfl ?_
  replace h := bsome h; obtain ⟨v4, x4, h⟩ := h
  refine wl_cq Try.call42 rfl rfl rfl (q_pf (k_hindcastref06_bit x4) (fun _ _ => trivial)) rfl ?_
  refine wl_pure tt_ok rfl rfl ?_
  refine wl_nil ?_
  refine wx_then ?_
  refine wc_ret ?_
  simp only [Option.some.injEq] at h
  obtain rfl := h
  exact wx_pf tt_ok (.inl rfl) Try.results21 (Res.tmp rfl Res.nil) rfl

theorem k_input_Dash {F : Nat} {p0 : Int} {r0 : Bool} (h : m_input_Dash F p0 = some r0) :
    Pf Try.prog 22 [.int .u8 p0] (fun w => True) (.bool r0) := by
  unfold m_input_Dash at h
  refine pf_of_wc Try.func22 rfl Try.ntmps22 rfl rfl (fun w0 hR => ?_)
  refine wc_seq ?_
  refine wc_region ?_
  refine wl_pure tt_ok rfl rfl ?_
  refine wl_nil ?_
  refine wx_then ?_
  refine wc_seq ?_
  refine wc_region ?_
  refine wl_pure tt_ok rfl rfl ?_
  refine wl_pure (v := .int .u8 (bits .and .u8 p0 (32 : Int))) tt_ok rfl rfl ?_
  refine wl_pure (v := .bool ((bits .and .u8 p0 (32 : Int)) != (0 : Int))) tt_ok rfl rfl ?_
  refine wl_pure tt_ok rfl rfl ?_
  refine wl_nil ?_
  refine wx_then ?_
  refine wc_ret ?_
  simp only [Option.some.injEq] at h
  obtain rfl := h
  exact wx_pf tt_ok (.inl rfl) Try.results22 (Res.tmp rfl Res.nil) rfl

theorem k_hindcastref06_Dash {F : Nat} {p0 : Int} {r0 : Bool} (h : m_hindcastref06_Dash F p0 = some r0) :
    Pf Try.prog 23 [.int .u8 p0] (fun w => True) (.bool r0) := by
  unfold m_hindcastref06_Dash at h
  refine pf_of_wc Try.func23 rfl Try.ntmps23 rfl rfl (fun w0 hR => ?_)
  refine wc_seq ?_
  refine wc_region ?_
  refine wl_pure tt_ok rfl rfl ?_
  refine wl_nil ?_
  refine wx_then ?_
  refine wc_seq ?_
  refine wc_region ?_
  refine wl_pure tt_ok rfl rfl ?_
  replace h := bsome h; obtain ⟨v4, x4, h⟩ := h
  refine wl_cq Try.call42 rfl rfl rfl (q_pf (k_hindcastref06_bit x4) (fun _ _ => trivial)) rfl ?_
  refine wl_pure tt_ok rfl rfl ?_
  refine wl_nil ?_
  refine wx_then ?_
  refine wc_ret ?_
  simp only [Option.some.injEq] at h
  obtain rfl := h
  exact wx_pf tt_ok (.inl rfl) Try.results23 (Res.tmp rfl Res.nil) rfl

theorem k_hindcastlaw06_InputBits {F : Nat} {p0 : Int} {r0 : Bool} (h : m_hindcastlaw06_InputBits F p0 = some r0) :
    Pf Try.prog 7 [.int .u8 p0] (fun w => True) (.bool r0) := by
  unfold m_hindcastlaw06_InputBits at h
  refine pf_of_wc Try.func7 rfl Try.ntmps7 rfl rfl (fun w0 hR => ?_)
  refine wc_seq ?_
  refine wc_region ?_
  refine wl_pure tt_ok rfl rfl ?_
  refine wl_nil ?_
  refine wx_then ?_
  refine wc_seq ?_
  refine wc_region ?_
  refine wl_pure tt_ok rfl rfl ?_
  replace h := bsome h; obtain ⟨⟨v9_0, v9_1⟩, x9, h⟩ := h; try dsimp only at h
  refine wl_cq Try.call16 rfl rfl rfl (q_pf (k_input_Dir x9) (fun _ _ => trivial)) rfl ?_
  refine wl_pure tt_ok rfl rfl ?_
  refine wl_pure tt_ok rfl rfl ?_
  refine wl_pure tt_ok rfl rfl ?_
  refine wl_pure tt_ok rfl rfl ?_
  refine wl_pure tt_ok rfl rfl ?_
  refine wl_nil ?_
  refine wx_then ?_
  refine wc_seq ?_
  refine wc_region ?_
  refine wl_pure tt_ok rfl rfl ?_
  replace h := bsome h; obtain ⟨⟨v14_0, v14_1⟩, x14, h⟩ := h; try dsimp only at h
  refine wl_cq Try.call17 rfl rfl rfl (q_pf (k_hindcastref06_Dir x14) (fun _ _ => trivial)) rfl ?_
  refine wl_pure tt_ok rfl rfl ?_
  refine wl_pure tt_ok rfl rfl ?_
  refine wl_pure tt_ok rfl rfl ?_
  refine wl_pure tt_ok rfl rfl ?_
  refine wl_pure tt_ok rfl rfl ?_
  refine wl_nil ?_
  refine wx_then ?_
  refine wc_seq ?_
  refine wc_region ?_
  refine wl_pure tt_ok rfl rfl ?_
  replace h := bsome h; obtain ⟨v18, x18, h⟩ := h
  refine wl_cq Try.call18 rfl rfl rfl (q_pf (k_input_Legal x18) (fun _ _ => trivial)) rfl ?_
  refine wl_pure tt_ok rfl rfl ?_
  replace h := bsome h; obtain ⟨v20, x20, h⟩ := h
  refine wl_cq Try.call19 rfl rfl rfl (q_pf (k_hindcastref06_Legal x20) (fun _ _ => trivial)) rfl ?_
  refine wl_pure (v := .bool (v18 == v20)) tt_ok rfl rfl ?_
  refine wl_pure tt_ok rfl rfl ?_
  replace h := bsome h; obtain ⟨v26, h, hg26⟩ := h
  refine wl_split (t := 22) rfl (fun hc => ?_) (fun hc => ?_)
  · replace h := ct hc h
    refine wl_run rfl ?_
    refine wl_pure tt_ok rfl rfl ?_
    refine wl_run rfl ?_
    refine wl_pure tt_ok rfl rfl ?_
    refine wl_run rfl ?_
    refine wl_pure (v := .bool (v9_0 == v14_0)) tt_ok rfl rfl ?_
    simp only [Option.some.injEq, Prod.mk.injEq] at h
    obtain rfl := h
    have h := hg26; clear hg26
    refine wl_pure (v := .bool (v9_0 == v14_0)) tt_ok rfl rfl ?_
    refine wl_pure tt_ok rfl rfl ?_
    replace h := bsome h; obtain ⟨v31, h, hg31⟩ := h
    refine wl_split (t := 27) rfl (fun hc => ?_) (fun hc => ?_)
    · replace h := ct hc h
      refine wl_run rfl ?_
      refine wl_pure tt_ok rfl rfl ?_
      refine wl_run rfl ?_
      refine wl_pure tt_ok rfl rfl ?_
      refine wl_run rfl ?_
      refine wl_pure (v := .bool (v9_1 == v14_1)) tt_ok rfl rfl ?_
      simp only [Option.some.injEq, Prod.mk.injEq] at h
      obtain rfl := h
      have h := hg31; clear hg31
      refine wl_pure (v := .bool (v9_1 == v14_1)) tt_ok rfl rfl ?_
      refine wl_pure tt_ok rfl rfl ?_
      replace h := bsome h; obtain ⟨v38, h, hg38⟩ := h
      refine wl_split (t := 32) rfl (fun hc => ?_) (fun hc => ?_)
      · replace h := ct hc h
        refine wl_run rfl ?_
        refine wl_pure tt_ok rfl rfl ?_
        replace h := bsome h; obtain ⟨v34, x34, h⟩ := h
        refine wl_run rfl ?_
        refine wl_cq Try.call20 rfl rfl rfl (q_pf (k_input_Fire x34) (fun _ _ => trivial)) rfl ?_
        refine wl_run rfl ?_
        refine wl_pure tt_ok rfl rfl ?_
        replace h := bsome h; obtain ⟨v36, x36, h⟩ := h
        refine wl_run rfl ?_
        refine wl_cq Try.call21 rfl rfl rfl (q_pf (k_hindcastref06_Fire x36) (fun _ _ => trivial)) rfl ?_
        refine wl_run rfl ?_
        refine wl_pure (v := .bool (v34 == v36)) tt_ok rfl rfl ?_
        simp only [Option.some.injEq, Prod.mk.injEq] at h
        obtain rfl := h
        have h := hg38; clear hg38
        refine wl_pure (v := .bool (v34 == v36)) tt_ok rfl rfl ?_
        refine wl_pure tt_ok rfl rfl ?_
        replace h := bsome h; obtain ⟨v45, h, hg45⟩ := h
        refine wl_split (t := 39) rfl (fun hc => ?_) (fun hc => ?_)
        · replace h := ct hc h
          refine wl_run rfl ?_
          refine wl_pure tt_ok rfl rfl ?_
          replace h := bsome h; obtain ⟨v41, x41, h⟩ := h
          refine wl_run rfl ?_
          refine wl_cq Try.call22 rfl rfl rfl (q_pf (k_input_Dash x41) (fun _ _ => trivial)) rfl ?_
          refine wl_run rfl ?_
          refine wl_pure tt_ok rfl rfl ?_
          replace h := bsome h; obtain ⟨v43, x43, h⟩ := h
          refine wl_run rfl ?_
          refine wl_cq Try.call23 rfl rfl rfl (q_pf (k_hindcastref06_Dash x43) (fun _ _ => trivial)) rfl ?_
          refine wl_run rfl ?_
          refine wl_pure (v := .bool (v41 == v43)) tt_ok rfl rfl ?_
          simp only [Option.some.injEq, Prod.mk.injEq] at h
          obtain rfl := h
          have h := hg45; clear hg45
          refine wl_pure (v := .bool (v41 == v43)) tt_ok rfl rfl ?_
          refine wl_pure tt_ok rfl rfl ?_
          replace h := bsome h; obtain ⟨v48, h, hg48⟩ := h
          refine wl_split (t := 46) rfl (fun hc => ?_) (fun hc => ?_)
          · replace h := ct hc h
            replace h := bsome h; obtain ⟨v47, x47, h⟩ := h
            refine wl_run rfl ?_
            refine wl_cq Try.call10 rfl rfl rfl (q_pf (k_hindcastlaw06_works x47) (fun _ _ => trivial)) rfl ?_
            simp only [Option.some.injEq, Prod.mk.injEq] at h
            obtain rfl := h
            have h := hg48; clear hg48
            refine wl_pure (v := .bool v47) tt_ok rfl rfl ?_
            refine wl_pure tt_ok rfl rfl ?_
            refine wl_nil ?_
            refine wx_then ?_
            refine wc_ret ?_
            simp only [Option.some.injEq] at h
            obtain rfl := h
            exact wx_pf tt_ok (.inl rfl) Try.results7 (Res.tmp rfl Res.nil) rfl
          · replace h := cf hc h
            refine wl_skip rfl rfl ?_
            simp only [Option.some.injEq, Prod.mk.injEq] at h
            obtain rfl := h
            have h := hg48; clear hg48
            refine wl_pure (v := .bool false) tt_ok rfl rfl ?_
            refine wl_pure tt_ok rfl rfl ?_
            refine wl_nil ?_
            refine wx_then ?_
            refine wc_ret ?_
            simp only [Option.some.injEq] at h
            obtain rfl := h
            exact wx_pf tt_ok (.inl rfl) Try.results7 (Res.tmp rfl Res.nil) rfl
        · replace h := cf hc h
          refine wl_skip rfl rfl ?_
          refine wl_skip rfl rfl ?_
          refine wl_skip rfl rfl ?_
          refine wl_skip rfl rfl ?_
          refine wl_skip rfl rfl ?_
          simp only [Option.some.injEq, Prod.mk.injEq] at h
          obtain rfl := h
          have h := hg45; clear hg45
          refine wl_pure (v := .bool false) tt_ok rfl rfl ?_
          refine wl_pure tt_ok rfl rfl ?_
          replace h := bsome h; obtain ⟨v48, h, hg48⟩ := h
          replace h := cf rfl h
          refine wl_skip rfl rfl ?_
          simp only [Option.some.injEq, Prod.mk.injEq] at h
          obtain rfl := h
          have h := hg48; clear hg48
          refine wl_pure (v := .bool false) tt_ok rfl rfl ?_
          refine wl_pure tt_ok rfl rfl ?_
          refine wl_nil ?_
          refine wx_then ?_
          refine wc_ret ?_
          simp only [Option.some.injEq] at h
          obtain rfl := h
          exact wx_pf tt_ok (.inl rfl) Try.results7 (Res.tmp rfl Res.nil) rfl
      · replace h := cf hc h
        refine wl_skip rfl rfl ?_
        refine wl_skip rfl rfl ?_
        refine wl_skip rfl rfl ?_
        refine wl_skip rfl rfl ?_
        refine wl_skip rfl rfl ?_
        simp only [Option.some.injEq, Prod.mk.injEq] at h
        obtain rfl := h
        have h := hg38; clear hg38
        refine wl_pure (v := .bool false) tt_ok rfl rfl ?_
        refine wl_pure tt_ok rfl rfl ?_
        replace h := bsome h; obtain ⟨v45, h, hg45⟩ := h
        replace h := cf rfl h
        refine wl_skip rfl rfl ?_
        refine wl_skip rfl rfl ?_
        refine wl_skip rfl rfl ?_
        refine wl_skip rfl rfl ?_
        refine wl_skip rfl rfl ?_
        simp only [Option.some.injEq, Prod.mk.injEq] at h
        obtain rfl := h
        have h := hg45; clear hg45
        refine wl_pure (v := .bool false) tt_ok rfl rfl ?_
        refine wl_pure tt_ok rfl rfl ?_
        replace h := bsome h; obtain ⟨v48, h, hg48⟩ := h
        replace h := cf rfl h
        refine wl_skip rfl rfl ?_
        simp only [Option.some.injEq, Prod.mk.injEq] at h
        obtain rfl := h
        have h := hg48; clear hg48
        refine wl_pure (v := .bool false) tt_ok rfl rfl ?_
        refine wl_pure tt_ok rfl rfl ?_
        refine wl_nil ?_
        refine wx_then ?_
        refine wc_ret ?_
        simp only [Option.some.injEq] at h
        obtain rfl := h
        exact wx_pf tt_ok (.inl rfl) Try.results7 (Res.tmp rfl Res.nil) rfl
    · replace h := cf hc h
      refine wl_skip rfl rfl ?_
      refine wl_skip rfl rfl ?_
      refine wl_skip rfl rfl ?_
      simp only [Option.some.injEq, Prod.mk.injEq] at h
      obtain rfl := h
      have h := hg31; clear hg31
      refine wl_pure (v := .bool false) tt_ok rfl rfl ?_
      refine wl_pure tt_ok rfl rfl ?_
      replace h := bsome h; obtain ⟨v38, h, hg38⟩ := h
      replace h := cf rfl h
      refine wl_skip rfl rfl ?_
      refine wl_skip rfl rfl ?_
      refine wl_skip rfl rfl ?_
      refine wl_skip rfl rfl ?_
      refine wl_skip rfl rfl ?_
      simp only [Option.some.injEq, Prod.mk.injEq] at h
      obtain rfl := h
      have h := hg38; clear hg38
      refine wl_pure (v := .bool false) tt_ok rfl rfl ?_
      refine wl_pure tt_ok rfl rfl ?_
      replace h := bsome h; obtain ⟨v45, h, hg45⟩ := h
      replace h := cf rfl h
      refine wl_skip rfl rfl ?_
      refine wl_skip rfl rfl ?_
      refine wl_skip rfl rfl ?_
      refine wl_skip rfl rfl ?_
      refine wl_skip rfl rfl ?_
      simp only [Option.some.injEq, Prod.mk.injEq] at h
      obtain rfl := h
      have h := hg45; clear hg45
      refine wl_pure (v := .bool false) tt_ok rfl rfl ?_
      refine wl_pure tt_ok rfl rfl ?_
      replace h := bsome h; obtain ⟨v48, h, hg48⟩ := h
      replace h := cf rfl h
      refine wl_skip rfl rfl ?_
      simp only [Option.some.injEq, Prod.mk.injEq] at h
      obtain rfl := h
      have h := hg48; clear hg48
      refine wl_pure (v := .bool false) tt_ok rfl rfl ?_
      refine wl_pure tt_ok rfl rfl ?_
      refine wl_nil ?_
      refine wx_then ?_
      refine wc_ret ?_
      simp only [Option.some.injEq] at h
      obtain rfl := h
      exact wx_pf tt_ok (.inl rfl) Try.results7 (Res.tmp rfl Res.nil) rfl
  · replace h := cf hc h
    refine wl_skip rfl rfl ?_
    refine wl_skip rfl rfl ?_
    refine wl_skip rfl rfl ?_
    simp only [Option.some.injEq, Prod.mk.injEq] at h
    obtain rfl := h
    have h := hg26; clear hg26
    refine wl_pure (v := .bool false) tt_ok rfl rfl ?_
    refine wl_pure tt_ok rfl rfl ?_
    replace h := bsome h; obtain ⟨v31, h, hg31⟩ := h
    replace h := cf rfl h
    refine wl_skip rfl rfl ?_
    refine wl_skip rfl rfl ?_
    refine wl_skip rfl rfl ?_
    simp only [Option.some.injEq, Prod.mk.injEq] at h
    obtain rfl := h
    have h := hg31; clear hg31
    refine wl_pure (v := .bool false) tt_ok rfl rfl ?_
    refine wl_pure tt_ok rfl rfl ?_
    replace h := bsome h; obtain ⟨v38, h, hg38⟩ := h
    replace h := cf rfl h
    refine wl_skip rfl rfl ?_
    refine wl_skip rfl rfl ?_
    refine wl_skip rfl rfl ?_
    refine wl_skip rfl rfl ?_
    refine wl_skip rfl rfl ?_
    simp only [Option.some.injEq, Prod.mk.injEq] at h
    obtain rfl := h
    have h := hg38; clear hg38
    refine wl_pure (v := .bool false) tt_ok rfl rfl ?_
    refine wl_pure tt_ok rfl rfl ?_
    replace h := bsome h; obtain ⟨v45, h, hg45⟩ := h
    replace h := cf rfl h
    refine wl_skip rfl rfl ?_
    refine wl_skip rfl rfl ?_
    refine wl_skip rfl rfl ?_
    refine wl_skip rfl rfl ?_
    refine wl_skip rfl rfl ?_
    simp only [Option.some.injEq, Prod.mk.injEq] at h
    obtain rfl := h
    have h := hg45; clear hg45
    refine wl_pure (v := .bool false) tt_ok rfl rfl ?_
    refine wl_pure tt_ok rfl rfl ?_
    replace h := bsome h; obtain ⟨v48, h, hg48⟩ := h
    replace h := cf rfl h
    refine wl_skip rfl rfl ?_
    simp only [Option.some.injEq, Prod.mk.injEq] at h
    obtain rfl := h
    have h := hg48; clear hg48
    refine wl_pure (v := .bool false) tt_ok rfl rfl ?_
    refine wl_pure tt_ok rfl rfl ?_
    refine wl_nil ?_
    refine wx_then ?_
    refine wc_ret ?_
    simp only [Option.some.injEq] at h
    obtain rfl := h
    exact wx_pf tt_ok (.inl rfl) Try.results7 (Res.tmp rfl Res.nil) rfl

theorem k_input_Predict {F : Nat} {p0 : (List Int)} {p0a0 : Option Addr} {p0n0 p0c0 : Nat} {r0 : Int} (p0N0 : p0n0 = p0.length) (p0H0 : p0n0 ≤ p0c0) (h : m_input_Predict F p0 = some r0) :
    Pf Try.prog 25 [.slice p0a0 p0n0 p0c0] (fun w => Rds w [] [] p0a0 (flat (e1 .u8) p0)) (.int .u8 r0) := by
  unfold m_input_Predict at h
  refine pf_of_wc Try.func25 rfl Try.ntmps25 rfl rfl (fun w0 hR => ?_)
  have p0S0 := hR
  refine wc_seq ?_
  refine wc_region ?_
  refine wl_pure tt_ok rfl rfl ?_
  refine wl_nil ?_
  refine wx_then ?_
  refine wc_seq ?_
  refine wc_seq ?_
  refine wc_region ?_
  refine wl_pure tt_ok rfl rfl ?_
  refine wl_val (v := .int .i64 (p0.length : Int)) (val_len tt_ok rfl rfl p0N0) rfl ?_
  refine wl_pure (v := .bool ((p0.length : Int) == (0 : Int))) tt_ok rfl rfl ?_
  refine wl_nil ?_
  refine wx_then ?_
  refine wc_cond rfl (fun hc => ?_) (fun hc => ?_)
  · replace h := ct hc h
    refine wc_seq ?_
    refine wc_region ?_
    refine wl_pure tt_ok rfl rfl ?_
    refine wl_nil ?_
    refine wx_then ?_
    refine wc_ret ?_
    refine wx_then_ret ?_
    simp only [Option.some.injEq] at h
    obtain rfl := h
    exact wx_pf tt_ok (.inl rfl) Try.results25 (Res.tmp rfl Res.nil) rfl
  · replace h := cf hc h
    refine wc_skip ?_
    refine wx_then ?_
    refine wc_seq ?_
    refine wc_region ?_
    refine wl_pure tt_ok rfl rfl ?_
    refine wl_pure tt_ok rfl rfl ?_
    refine wl_val (v := .int .i64 (p0.length : Int)) (val_len tt_ok rfl rfl p0N0) rfl ?_
    refine wl_pure (v := .int .i64 (IntKind.wrap .i64 ((p0.length : Int) - (1 : Int)))) tt_ok rfl rfl ?_
    replace h := bsome h; obtain ⟨v10, x10, h⟩ := h
    refine wl_val (v := .pointer (some ((adOf p0a0).add ((IntKind.wrap .i64 ((p0.length : Int) - (1 : Int))).toNat * 1 + 0)))) (val_ix (enc := (e1 .u8)) tt_ok rfl rfl rfl rfl p0N0 p0S0 (e1_len _) rfl x10) rfl ?_
    refine wl_val (v := .int .u8 v10) (val_le (enc := (e1 .u8)) (xs := p0) tt_ok rfl p0S0 rsub_nil (e1_len _) x10 rfl) rfl ?_
    refine wl_pure tt_ok rfl rfl ?_
    refine wl_nil ?_
    refine wx_then ?_
    refine wc_ret ?_
    simp only [Option.some.injEq] at h
    obtain rfl := h
    exact wx_pf tt_ok (.inl rfl) Try.results25 (Res.tmp rfl Res.nil) rfl

theorem k_hindcastlaw06_InputKnown {F : Nat} {r0 : Bool} (h : m_hindcastlaw06_InputKnown F = some r0) :
    Pf Try.prog 9 [] (fun w => True) (.bool r0) := by
  unfold m_hindcastlaw06_InputKnown at h
  refine pf_of_wc Try.func9 rfl Try.ntmps9 rfl rfl (fun w0 hR => ?_)
  refine wc_seq ?_
  refine wc_region ?_
  refine wl_pure tt_ok rfl rfl ?_
  refine wl_nil ?_
  refine wx_then ?_
  refine wc_seq ?_
  refine wc_region ?_
  replace h := bsome h; obtain ⟨⟨v10_0, v10_1⟩, x10, h⟩ := h; try dsimp only at h
  refine wl_cq Try.call16 rfl rfl rfl (q_pf (k_input_Dir x10) (fun _ _ => trivial)) rfl ?_
  refine wl_pure tt_ok rfl rfl ?_
  refine wl_pure tt_ok rfl rfl ?_
  refine wl_pure tt_ok rfl rfl ?_
  refine wl_pure tt_ok rfl rfl ?_
  refine wl_pure tt_ok rfl rfl ?_
  refine wl_nil ?_
  refine wx_then ?_
  refine wc_seq ?_
  refine wc_region ?_
  replace h := bsome h; obtain ⟨⟨v14_0, v14_1⟩, x14, h⟩ := h; try dsimp only at h
  refine wl_cq Try.call16 rfl rfl rfl (q_pf (k_input_Dir x14) (fun _ _ => trivial)) rfl ?_
  refine wl_pure tt_ok rfl rfl ?_
  refine wl_pure tt_ok rfl rfl ?_
  refine wl_pure tt_ok rfl rfl ?_
  refine wl_pure tt_ok rfl rfl ?_
  refine wl_pure tt_ok rfl rfl ?_
  refine wl_nil ?_
  refine wx_then ?_
  refine wc_seq ?_
  refine wc_region ?_
  replace h := bsome h; obtain ⟨⟨v18_0, v18_1⟩, x18, h⟩ := h; try dsimp only at h
  refine wl_cq Try.call16 rfl rfl rfl (q_pf (k_input_Dir x18) (fun _ _ => trivial)) rfl ?_
  refine wl_pure tt_ok rfl rfl ?_
  refine wl_pure tt_ok rfl rfl ?_
  refine wl_pure tt_ok rfl rfl ?_
  refine wl_pure tt_ok rfl rfl ?_
  refine wl_pure tt_ok rfl rfl ?_
  refine wl_nil ?_
  refine wx_then ?_
  refine wc_seq ?_
  refine wc_seq ?_
  refine wc_region ?_
  replace h := bsome h; obtain ⟨v21, x21, h⟩ := h
  refine wl_cq Try.call10 rfl rfl rfl (q_pf (k_hindcastlaw06_works x21) (fun _ _ => trivial)) rfl ?_
  refine wl_pure (v := .bool (!v21)) tt_ok rfl rfl ?_
  refine wl_pure tt_ok rfl rfl ?_
  replace h := bsome h; obtain ⟨v26, h, hg26⟩ := h
  refine wl_split (t := 23) rfl (fun hc => ?_) (fun hc => ?_)
  · replace h := ct hc h
    refine wl_skip rfl rfl ?_
    refine wl_skip rfl rfl ?_
    simp only [Option.some.injEq, Prod.mk.injEq] at h
    obtain rfl := h
    have h := hg26; clear hg26
    refine wl_pure (v := .bool true) tt_ok rfl rfl ?_
    refine wl_pure tt_ok rfl rfl ?_
    replace h := bsome h; obtain ⟨v30, h, hg30⟩ := h
    replace h := ct rfl h
    refine wl_skip rfl rfl ?_
    refine wl_skip rfl rfl ?_
    simp only [Option.some.injEq, Prod.mk.injEq] at h
    obtain rfl := h
    have h := hg30; clear hg30
    refine wl_pure (v := .bool true) tt_ok rfl rfl ?_
    refine wl_pure tt_ok rfl rfl ?_
    replace h := bsome h; obtain ⟨v34, h, hg34⟩ := h
    replace h := ct rfl h
    refine wl_skip rfl rfl ?_
    refine wl_skip rfl rfl ?_
    simp only [Option.some.injEq, Prod.mk.injEq] at h
    obtain rfl := h
    have h := hg34; clear hg34
    refine wl_pure (v := .bool true) tt_ok rfl rfl ?_
    refine wl_pure tt_ok rfl rfl ?_
    replace h := bsome h; obtain ⟨v38, h, hg38⟩ := h
    replace h := ct rfl h
    refine wl_skip rfl rfl ?_
    refine wl_skip rfl rfl ?_
    simp only [Option.some.injEq, Prod.mk.injEq] at h
    obtain rfl := h
    have h := hg38; clear hg38
    refine wl_pure (v := .bool true) tt_ok rfl rfl ?_
    refine wl_pure tt_ok rfl rfl ?_
    replace h := bsome h; obtain ⟨v42, h, hg42⟩ := h
    replace h := ct rfl h
    refine wl_skip rfl rfl ?_
    refine wl_skip rfl rfl ?_
    simp only [Option.some.injEq, Prod.mk.injEq] at h
    obtain rfl := h
    have h := hg42; clear hg42
    refine wl_pure (v := .bool true) tt_ok rfl rfl ?_
    refine wl_pure tt_ok rfl rfl ?_
    replace h := bsome h; obtain ⟨v46, h, hg46⟩ := h
    replace h := ct rfl h
    refine wl_skip rfl rfl ?_
    refine wl_skip rfl rfl ?_
    simp only [Option.some.injEq, Prod.mk.injEq] at h
    obtain rfl := h
    have h := hg46; clear hg46
    refine wl_pure (v := .bool true) tt_ok rfl rfl ?_
    refine wl_pure tt_ok rfl rfl ?_
    replace h := bsome h; obtain ⟨v50, h, hg50⟩ := h
    replace h := ct rfl h
    refine wl_skip rfl rfl ?_
    refine wl_skip rfl rfl ?_
    simp only [Option.some.injEq, Prod.mk.injEq] at h
    obtain rfl := h
    have h := hg50; clear hg50
    refine wl_pure (v := .bool true) tt_ok rfl rfl ?_
    refine wl_pure tt_ok rfl rfl ?_
    replace h := bsome h; obtain ⟨v55, h, hg55⟩ := h
    replace h := ct rfl h
    refine wl_skip rfl rfl ?_
    refine wl_skip rfl rfl ?_
    refine wl_skip rfl rfl ?_
    simp only [Option.some.injEq, Prod.mk.injEq] at h
    obtain rfl := h
    have h := hg55; clear hg55
    refine wl_pure (v := .bool true) tt_ok rfl rfl ?_
    refine wl_pure tt_ok rfl rfl ?_
    replace h := bsome h; obtain ⟨v59, h, hg59⟩ := h
    replace h := ct rfl h
    refine wl_skip rfl rfl ?_
    refine wl_skip rfl rfl ?_
    simp only [Option.some.injEq, Prod.mk.injEq] at h
    obtain rfl := h
    have h := hg59; clear hg59
    refine wl_pure (v := .bool true) tt_ok rfl rfl ?_
    refine wl_pure tt_ok rfl rfl ?_
    replace h := bsome h; obtain ⟨v62, h, hg62⟩ := h
    replace h := ct rfl h
    refine wl_skip rfl rfl ?_
    simp only [Option.some.injEq, Prod.mk.injEq] at h
    obtain rfl := h
    have h := hg62; clear hg62
    refine wl_pure (v := .bool true) tt_ok rfl rfl ?_
    refine wl_pure tt_ok rfl rfl ?_
    replace h := bsome h; obtain ⟨v66, h, hg66⟩ := h
    replace h := ct rfl h
    refine wl_skip rfl rfl ?_
    refine wl_skip rfl rfl ?_
    simp only [Option.some.injEq, Prod.mk.injEq] at h
    obtain rfl := h
    have h := hg66; clear hg66
    refine wl_pure (v := .bool true) tt_ok rfl rfl ?_
    refine wl_pure tt_ok rfl rfl ?_
    replace h := bsome h; obtain ⟨v69, h, hg69⟩ := h
    replace h := ct rfl h
    refine wl_skip rfl rfl ?_
    simp only [Option.some.injEq, Prod.mk.injEq] at h
    obtain rfl := h
    have h := hg69; clear hg69
    refine wl_pure (v := .bool true) tt_ok rfl rfl ?_
    refine wl_pure tt_ok rfl rfl ?_
    replace h := bsome h; obtain ⟨v73, h, hg73⟩ := h
    replace h := ct rfl h
    refine wl_skip rfl rfl ?_
    refine wl_skip rfl rfl ?_
    simp only [Option.some.injEq, Prod.mk.injEq] at h
    obtain rfl := h
    have h := hg73; clear hg73
    refine wl_pure (v := .bool true) tt_ok rfl rfl ?_
    refine wl_pure tt_ok rfl rfl ?_
    replace h := bsome h; obtain ⟨v76, h, hg76⟩ := h
    replace h := ct rfl h
    refine wl_skip rfl rfl ?_
    simp only [Option.some.injEq, Prod.mk.injEq] at h
    obtain rfl := h
    have h := hg76; clear hg76
    refine wl_pure (v := .bool true) tt_ok rfl rfl ?_
    refine wl_nil ?_
    refine wx_then ?_
    replace h := ct rfl h
    refine wc_cond_true rfl ?_
    refine wc_seq ?_
    refine wc_region ?_
    refine wl_pure tt_ok rfl rfl ?_
    refine wl_nil ?_
    refine wx_then ?_
    refine wc_ret ?_
    refine wx_then_ret ?_
    simp only [Option.some.injEq] at h
    obtain rfl := h
    exact wx_pf tt_ok (.inl rfl) Try.results9 (Res.tmp rfl Res.nil) rfl
  · replace h := cf hc h
    refine wl_run rfl ?_
    refine wl_pure tt_ok rfl rfl ?_
    refine wl_run rfl ?_
    refine wl_pure (v := .bool (v10_0 != (-1 : Int))) tt_ok rfl rfl ?_
    simp only [Option.some.injEq, Prod.mk.injEq] at h
    obtain rfl := h
    have h := hg26; clear hg26
    refine wl_pure (v := .bool (v10_0 != (-1 : Int))) tt_ok rfl rfl ?_
    refine wl_pure tt_ok rfl rfl ?_
    replace h := bsome h; obtain ⟨v30, h, hg30⟩ := h
    refine wl_split (t := 27) rfl (fun hc => ?_) (fun hc => ?_)
    · replace h := ct hc h
      refine wl_skip rfl rfl ?_
      refine wl_skip rfl rfl ?_
      simp only [Option.some.injEq, Prod.mk.injEq] at h
      obtain rfl := h
      have h := hg30; clear hg30
      refine wl_pure (v := .bool true) tt_ok rfl rfl ?_
      refine wl_pure tt_ok rfl rfl ?_
      replace h := bsome h; obtain ⟨v34, h, hg34⟩ := h
      replace h := ct rfl h
      refine wl_skip rfl rfl ?_
      refine wl_skip rfl rfl ?_
      simp only [Option.some.injEq, Prod.mk.injEq] at h
      obtain rfl := h
      have h := hg34; clear hg34
      refine wl_pure (v := .bool true) tt_ok rfl rfl ?_
      refine wl_pure tt_ok rfl rfl ?_
      replace h := bsome h; obtain ⟨v38, h, hg38⟩ := h
      replace h := ct rfl h
      refine wl_skip rfl rfl ?_
      refine wl_skip rfl rfl ?_
      simp only [Option.some.injEq, Prod.mk.injEq] at h
      obtain rfl := h
      have h := hg38; clear hg38
      refine wl_pure (v := .bool true) tt_ok rfl rfl ?_
      refine wl_pure tt_ok rfl rfl ?_
      replace h := bsome h; obtain ⟨v42, h, hg42⟩ := h
      replace h := ct rfl h
      refine wl_skip rfl rfl ?_
      refine wl_skip rfl rfl ?_
      simp only [Option.some.injEq, Prod.mk.injEq] at h
      obtain rfl := h
      have h := hg42; clear hg42
      refine wl_pure (v := .bool true) tt_ok rfl rfl ?_
      refine wl_pure tt_ok rfl rfl ?_
      replace h := bsome h; obtain ⟨v46, h, hg46⟩ := h
      replace h := ct rfl h
      refine wl_skip rfl rfl ?_
      refine wl_skip rfl rfl ?_
      simp only [Option.some.injEq, Prod.mk.injEq] at h
      obtain rfl := h
      have h := hg46; clear hg46
      refine wl_pure (v := .bool true) tt_ok rfl rfl ?_
      refine wl_pure tt_ok rfl rfl ?_
      replace h := bsome h; obtain ⟨v50, h, hg50⟩ := h
      replace h := ct rfl h
      refine wl_skip rfl rfl ?_
      refine wl_skip rfl rfl ?_
      simp only [Option.some.injEq, Prod.mk.injEq] at h
      obtain rfl := h
      have h := hg50; clear hg50
      refine wl_pure (v := .bool true) tt_ok rfl rfl ?_
      refine wl_pure tt_ok rfl rfl ?_
      replace h := bsome h; obtain ⟨v55, h, hg55⟩ := h
      replace h := ct rfl h
      refine wl_skip rfl rfl ?_
      refine wl_skip rfl rfl ?_
      refine wl_skip rfl rfl ?_
      simp only [Option.some.injEq, Prod.mk.injEq] at h
      obtain rfl := h
      have h := hg55; clear hg55
      refine wl_pure (v := .bool true) tt_ok rfl rfl ?_
      refine wl_pure tt_ok rfl rfl ?_
      replace h := bsome h; obtain ⟨v59, h, hg59⟩ := h
      replace h := ct rfl h
      refine wl_skip rfl rfl ?_
      refine wl_skip rfl rfl ?_
      simp only [Option.some.injEq, Prod.mk.injEq] at h
      obtain rfl := h
      have h := hg59; clear hg59
      refine wl_pure (v := .bool true) tt_ok rfl rfl ?_
      refine wl_pure tt_ok rfl rfl ?_
      replace h := bsome h; obtain ⟨v62, h, hg62⟩ := h
      replace h := ct rfl h
      refine wl_skip rfl rfl ?_
      simp only [Option.some.injEq, Prod.mk.injEq] at h
      obtain rfl := h
      have h := hg62; clear hg62
      refine wl_pure (v := .bool true) tt_ok rfl rfl ?_
      refine wl_pure tt_ok rfl rfl ?_
      replace h := bsome h; obtain ⟨v66, h, hg66⟩ := h
      replace h := ct rfl h
      refine wl_skip rfl rfl ?_
      refine wl_skip rfl rfl ?_
      simp only [Option.some.injEq, Prod.mk.injEq] at h
      obtain rfl := h
      have h := hg66; clear hg66
      refine wl_pure (v := .bool true) tt_ok rfl rfl ?_
      refine wl_pure tt_ok rfl rfl ?_
      replace h := bsome h; obtain ⟨v69, h, hg69⟩ := h
      replace h := ct rfl h
      refine wl_skip rfl rfl ?_
      simp only [Option.some.injEq, Prod.mk.injEq] at h
      obtain rfl := h
      have h := hg69; clear hg69
      refine wl_pure (v := .bool true) tt_ok rfl rfl ?_
      refine wl_pure tt_ok rfl rfl ?_
      replace h := bsome h; obtain ⟨v73, h, hg73⟩ := h
      replace h := ct rfl h
      refine wl_skip rfl rfl ?_
      refine wl_skip rfl rfl ?_
      simp only [Option.some.injEq, Prod.mk.injEq] at h
      obtain rfl := h
      have h := hg73; clear hg73
      refine wl_pure (v := .bool true) tt_ok rfl rfl ?_
      refine wl_pure tt_ok rfl rfl ?_
      replace h := bsome h; obtain ⟨v76, h, hg76⟩ := h
      replace h := ct rfl h
      refine wl_skip rfl rfl ?_
      simp only [Option.some.injEq, Prod.mk.injEq] at h
      obtain rfl := h
      have h := hg76; clear hg76
      refine wl_pure (v := .bool true) tt_ok rfl rfl ?_
      refine wl_nil ?_
      refine wx_then ?_
      replace h := ct rfl h
      refine wc_cond_true rfl ?_
      refine wc_seq ?_
      refine wc_region ?_
      refine wl_pure tt_ok rfl rfl ?_
      refine wl_nil ?_
      refine wx_then ?_
      refine wc_ret ?_
      refine wx_then_ret ?_
      simp only [Option.some.injEq] at h
      obtain rfl := h
      exact wx_pf tt_ok (.inl rfl) Try.results9 (Res.tmp rfl Res.nil) rfl
    · replace h := cf hc h
      refine wl_run rfl ?_
      refine wl_pure tt_ok rfl rfl ?_
      refine wl_run rfl ?_
      refine wl_pure (v := .bool (v10_1 != (0 : Int))) tt_ok rfl rfl ?_
      simp only [Option.some.injEq, Prod.mk.injEq] at h
      obtain rfl := h
      have h := hg30; clear hg30
      refine wl_pure (v := .bool (v10_1 != (0 : Int))) tt_ok rfl rfl ?_
      refine wl_pure tt_ok rfl rfl ?_
      replace h := bsome h; obtain ⟨v34, h, hg34⟩ := h
      refine wl_split (t := 31) rfl (fun hc => ?_) (fun hc => ?_)
      · replace h := ct hc h
        refine wl_skip rfl rfl ?_
        refine wl_skip rfl rfl ?_
        simp only [Option.some.injEq, Prod.mk.injEq] at h
        obtain rfl := h
        have h := hg34; clear hg34
        refine wl_pure (v := .bool true) tt_ok rfl rfl ?_
        refine wl_pure tt_ok rfl rfl ?_
        replace h := bsome h; obtain ⟨v38, h, hg38⟩ := h
        replace h := ct rfl h
        refine wl_skip rfl rfl ?_
        refine wl_skip rfl rfl ?_
        simp only [Option.some.injEq, Prod.mk.injEq] at h
        obtain rfl := h
        have h := hg38; clear hg38
        refine wl_pure (v := .bool true) tt_ok rfl rfl ?_
        refine wl_pure tt_ok rfl rfl ?_
        replace h := bsome h; obtain ⟨v42, h, hg42⟩ := h
        replace h := ct rfl h
        refine wl_skip rfl rfl ?_
        refine wl_skip rfl rfl ?_
        simp only [Option.some.injEq, Prod.mk.injEq] at h
        obtain rfl := h
        have h := hg42; clear hg42
        refine wl_pure (v := .bool true) tt_ok rfl rfl ?_
        refine wl_pure tt_ok rfl rfl ?_
        replace h := bsome h; obtain ⟨v46, h, hg46⟩ := h
        replace h := ct rfl h
        refine wl_skip rfl rfl ?_
        refine wl_skip rfl rfl ?_
        simp only [Option.some.injEq, Prod.mk.injEq] at h
        obtain rfl := h
        have h := hg46; clear hg46
        refine wl_pure (v := .bool true) tt_ok rfl rfl ?_
        refine wl_pure tt_ok rfl rfl ?_
        replace h := bsome h; obtain ⟨v50, h, hg50⟩ := h
        replace h := ct rfl h
        refine wl_skip rfl rfl ?_
        refine wl_skip rfl rfl ?_
        simp only [Option.some.injEq, Prod.mk.injEq] at h
        obtain rfl := h
        have h := hg50; clear hg50
        refine wl_pure (v := .bool true) tt_ok rfl rfl ?_
        refine wl_pure tt_ok rfl rfl ?_
        replace h := bsome h; obtain ⟨v55, h, hg55⟩ := h
        replace h := ct rfl h
        refine wl_skip rfl rfl ?_
        refine wl_skip rfl rfl ?_
        refine wl_skip rfl rfl ?_
        simp only [Option.some.injEq, Prod.mk.injEq] at h
        obtain rfl := h
        have h := hg55; clear hg55
        refine wl_pure (v := .bool true) tt_ok rfl rfl ?_
        refine wl_pure tt_ok rfl rfl ?_
        replace h := bsome h; obtain ⟨v59, h, hg59⟩ := h
        replace h := ct rfl h
        refine wl_skip rfl rfl ?_
        refine wl_skip rfl rfl ?_
        simp only [Option.some.injEq, Prod.mk.injEq] at h
        obtain rfl := h
        have h := hg59; clear hg59
        refine wl_pure (v := .bool true) tt_ok rfl rfl ?_
        refine wl_pure tt_ok rfl rfl ?_
        replace h := bsome h; obtain ⟨v62, h, hg62⟩ := h
        replace h := ct rfl h
        refine wl_skip rfl rfl ?_
        simp only [Option.some.injEq, Prod.mk.injEq] at h
        obtain rfl := h
        have h := hg62; clear hg62
        refine wl_pure (v := .bool true) tt_ok rfl rfl ?_
        refine wl_pure tt_ok rfl rfl ?_
        replace h := bsome h; obtain ⟨v66, h, hg66⟩ := h
        replace h := ct rfl h
        refine wl_skip rfl rfl ?_
        refine wl_skip rfl rfl ?_
        simp only [Option.some.injEq, Prod.mk.injEq] at h
        obtain rfl := h
        have h := hg66; clear hg66
        refine wl_pure (v := .bool true) tt_ok rfl rfl ?_
        refine wl_pure tt_ok rfl rfl ?_
        replace h := bsome h; obtain ⟨v69, h, hg69⟩ := h
        replace h := ct rfl h
        refine wl_skip rfl rfl ?_
        simp only [Option.some.injEq, Prod.mk.injEq] at h
        obtain rfl := h
        have h := hg69; clear hg69
        refine wl_pure (v := .bool true) tt_ok rfl rfl ?_
        refine wl_pure tt_ok rfl rfl ?_
        replace h := bsome h; obtain ⟨v73, h, hg73⟩ := h
        replace h := ct rfl h
        refine wl_skip rfl rfl ?_
        refine wl_skip rfl rfl ?_
        simp only [Option.some.injEq, Prod.mk.injEq] at h
        obtain rfl := h
        have h := hg73; clear hg73
        refine wl_pure (v := .bool true) tt_ok rfl rfl ?_
        refine wl_pure tt_ok rfl rfl ?_
        replace h := bsome h; obtain ⟨v76, h, hg76⟩ := h
        replace h := ct rfl h
        refine wl_skip rfl rfl ?_
        simp only [Option.some.injEq, Prod.mk.injEq] at h
        obtain rfl := h
        have h := hg76; clear hg76
        refine wl_pure (v := .bool true) tt_ok rfl rfl ?_
        refine wl_nil ?_
        refine wx_then ?_
        replace h := ct rfl h
        refine wc_cond_true rfl ?_
        refine wc_seq ?_
        refine wc_region ?_
        refine wl_pure tt_ok rfl rfl ?_
        refine wl_nil ?_
        refine wx_then ?_
        refine wc_ret ?_
        refine wx_then_ret ?_
        simp only [Option.some.injEq] at h
        obtain rfl := h
        exact wx_pf tt_ok (.inl rfl) Try.results9 (Res.tmp rfl Res.nil) rfl
      · replace h := cf hc h
        refine wl_run rfl ?_
        refine wl_pure tt_ok rfl rfl ?_
        refine wl_run rfl ?_
        refine wl_pure (v := .bool (v14_0 != (0 : Int))) tt_ok rfl rfl ?_
        simp only [Option.some.injEq, Prod.mk.injEq] at h
        obtain rfl := h
        have h := hg34; clear hg34
        refine wl_pure (v := .bool (v14_0 != (0 : Int))) tt_ok rfl rfl ?_
        refine wl_pure tt_ok rfl rfl ?_
        replace h := bsome h; obtain ⟨v38, h, hg38⟩ := h
        refine wl_split (t := 35) rfl (fun hc => ?_) (fun hc => ?_)
        · replace h := ct hc h
          refine wl_skip rfl rfl ?_
          refine wl_skip rfl rfl ?_
          simp only [Option.some.injEq, Prod.mk.injEq] at h
          obtain rfl := h
          have h := hg38; clear hg38
          refine wl_pure (v := .bool true) tt_ok rfl rfl ?_
          refine wl_pure tt_ok rfl rfl ?_
          replace h := bsome h; obtain ⟨v42, h, hg42⟩ := h
          replace h := ct rfl h
          refine wl_skip rfl rfl ?_
          refine wl_skip rfl rfl ?_
          simp only [Option.some.injEq, Prod.mk.injEq] at h
          obtain rfl := h
          have h := hg42; clear hg42
          refine wl_pure (v := .bool true) tt_ok rfl rfl ?_
          refine wl_pure tt_ok rfl rfl ?_
          replace h := bsome h; obtain ⟨v46, h, hg46⟩ := h
          replace h := ct rfl h
          refine wl_skip rfl rfl ?_
          refine wl_skip rfl rfl ?_
          simp only [Option.some.injEq, Prod.mk.injEq] at h
          obtain rfl := h
          have h := hg46; clear hg46
          refine wl_pure (v := .bool true) tt_ok rfl rfl ?_
          refine wl_pure tt_ok rfl rfl ?_
          replace h := bsome h; obtain ⟨v50, h, hg50⟩ := h
          replace h := ct rfl h
          refine wl_skip rfl rfl ?_
          refine wl_skip rfl rfl ?_
          simp only [Option.some.injEq, Prod.mk.injEq] at h
          obtain rfl := h
          have h := hg50; clear hg50
          refine wl_pure (v := .bool true) tt_ok rfl rfl ?_
          refine wl_pure tt_ok rfl rfl ?_
          replace h := bsome h; obtain ⟨v55, h, hg55⟩ := h
          replace h := ct rfl h
          refine wl_skip rfl rfl ?_
          refine wl_skip rfl rfl ?_
          refine wl_skip rfl rfl ?_
          simp only [Option.some.injEq, Prod.mk.injEq] at h
          obtain rfl := h
          have h := hg55; clear hg55
          refine wl_pure (v := .bool true) tt_ok rfl rfl ?_
          refine wl_pure tt_ok rfl rfl ?_
          replace h := bsome h; obtain ⟨v59, h, hg59⟩ := h
          replace h := ct rfl h
          refine wl_skip rfl rfl ?_
          refine wl_skip rfl rfl ?_
          simp only [Option.some.injEq, Prod.mk.injEq] at h
          obtain rfl := h
          have h := hg59; clear hg59
          refine wl_pure (v := .bool true) tt_ok rfl rfl ?_
          refine wl_pure tt_ok rfl rfl ?_
          replace h := bsome h; obtain ⟨v62, h, hg62⟩ := h
          replace h := ct rfl h
          refine wl_skip rfl rfl ?_
          simp only [Option.some.injEq, Prod.mk.injEq] at h
          obtain rfl := h
          have h := hg62; clear hg62
          refine wl_pure (v := .bool true) tt_ok rfl rfl ?_
          refine wl_pure tt_ok rfl rfl ?_
          replace h := bsome h; obtain ⟨v66, h, hg66⟩ := h
          replace h := ct rfl h
          refine wl_skip rfl rfl ?_
          refine wl_skip rfl rfl ?_
          simp only [Option.some.injEq, Prod.mk.injEq] at h
          obtain rfl := h
          have h := hg66; clear hg66
          refine wl_pure (v := .bool true) tt_ok rfl rfl ?_
          refine wl_pure tt_ok rfl rfl ?_
          replace h := bsome h; obtain ⟨v69, h, hg69⟩ := h
          replace h := ct rfl h
          refine wl_skip rfl rfl ?_
          simp only [Option.some.injEq, Prod.mk.injEq] at h
          obtain rfl := h
          have h := hg69; clear hg69
          refine wl_pure (v := .bool true) tt_ok rfl rfl ?_
          refine wl_pure tt_ok rfl rfl ?_
          replace h := bsome h; obtain ⟨v73, h, hg73⟩ := h
          replace h := ct rfl h
          refine wl_skip rfl rfl ?_
          refine wl_skip rfl rfl ?_
          simp only [Option.some.injEq, Prod.mk.injEq] at h
          obtain rfl := h
          have h := hg73; clear hg73
          refine wl_pure (v := .bool true) tt_ok rfl rfl ?_
          refine wl_pure tt_ok rfl rfl ?_
          replace h := bsome h; obtain ⟨v76, h, hg76⟩ := h
          replace h := ct rfl h
          refine wl_skip rfl rfl ?_
          simp only [Option.some.injEq, Prod.mk.injEq] at h
          obtain rfl := h
          have h := hg76; clear hg76
          refine wl_pure (v := .bool true) tt_ok rfl rfl ?_
          refine wl_nil ?_
          refine wx_then ?_
          replace h := ct rfl h
          refine wc_cond_true rfl ?_
          refine wc_seq ?_
          refine wc_region ?_
          refine wl_pure tt_ok rfl rfl ?_
          refine wl_nil ?_
          refine wx_then ?_
          refine wc_ret ?_
          refine wx_then_ret ?_
          simp only [Option.some.injEq] at h
          obtain rfl := h
          exact wx_pf tt_ok (.inl rfl) Try.results9 (Res.tmp rfl Res.nil) rfl
        · replace h := cf hc h
          refine wl_run rfl ?_
          refine wl_pure tt_ok rfl rfl ?_
          refine wl_run rfl ?_
          refine wl_pure (v := .bool (v14_1 != (0 : Int))) tt_ok rfl rfl ?_
          simp only [Option.some.injEq, Prod.mk.injEq] at h
          obtain rfl := h
          have h := hg38; clear hg38
          refine wl_pure (v := .bool (v14_1 != (0 : Int))) tt_ok rfl rfl ?_
          refine wl_pure tt_ok rfl rfl ?_
          replace h := bsome h; obtain ⟨v42, h, hg42⟩ := h
          refine wl_split (t := 39) rfl (fun hc => ?_) (fun hc => ?_)
          · replace h := ct hc h
            refine wl_skip rfl rfl ?_
            refine wl_skip rfl rfl ?_
            simp only [Option.some.injEq, Prod.mk.injEq] at h
            obtain rfl := h
            have h := hg42; clear hg42
            refine wl_pure (v := .bool true) tt_ok rfl rfl ?_
            refine wl_pure tt_ok rfl rfl ?_
            replace h := bsome h; obtain ⟨v46, h, hg46⟩ := h
            replace h := ct rfl h
            refine wl_skip rfl rfl ?_
            refine wl_skip rfl rfl ?_
            simp only [Option.some.injEq, Prod.mk.injEq] at h
            obtain rfl := h
            have h := hg46; clear hg46
            refine wl_pure (v := .bool true) tt_ok rfl rfl ?_
            refine wl_pure tt_ok rfl rfl ?_
            replace h := bsome h; obtain ⟨v50, h, hg50⟩ := h
            replace h := ct rfl h
            refine wl_skip rfl rfl ?_
            refine wl_skip rfl rfl ?_
            simp only [Option.some.injEq, Prod.mk.injEq] at h
            obtain rfl := h
            have h := hg50; clear hg50
            refine wl_pure (v := .bool true) tt_ok rfl rfl ?_
            refine wl_pure tt_ok rfl rfl ?_
            replace h := bsome h; obtain ⟨v55, h, hg55⟩ := h
            replace h := ct rfl h
            refine wl_skip rfl rfl ?_
            refine wl_skip rfl rfl ?_
            refine wl_skip rfl rfl ?_
            simp only [Option.some.injEq, Prod.mk.injEq] at h
            obtain rfl := h
            have h := hg55; clear hg55
            refine wl_pure (v := .bool true) tt_ok rfl rfl ?_
            refine wl_pure tt_ok rfl rfl ?_
            replace h := bsome h; obtain ⟨v59, h, hg59⟩ := h
            replace h := ct rfl h
            refine wl_skip rfl rfl ?_
            refine wl_skip rfl rfl ?_
            simp only [Option.some.injEq, Prod.mk.injEq] at h
            obtain rfl := h
            have h := hg59; clear hg59
            refine wl_pure (v := .bool true) tt_ok rfl rfl ?_
            refine wl_pure tt_ok rfl rfl ?_
            replace h := bsome h; obtain ⟨v62, h, hg62⟩ := h
            replace h := ct rfl h
            refine wl_skip rfl rfl ?_
            simp only [Option.some.injEq, Prod.mk.injEq] at h
            obtain rfl := h
            have h := hg62; clear hg62
            refine wl_pure (v := .bool true) tt_ok rfl rfl ?_
            refine wl_pure tt_ok rfl rfl ?_
            replace h := bsome h; obtain ⟨v66, h, hg66⟩ := h
            replace h := ct rfl h
            refine wl_skip rfl rfl ?_
            refine wl_skip rfl rfl ?_
            simp only [Option.some.injEq, Prod.mk.injEq] at h
            obtain rfl := h
            have h := hg66; clear hg66
            refine wl_pure (v := .bool true) tt_ok rfl rfl ?_
            refine wl_pure tt_ok rfl rfl ?_
            replace h := bsome h; obtain ⟨v69, h, hg69⟩ := h
            replace h := ct rfl h
            refine wl_skip rfl rfl ?_
            simp only [Option.some.injEq, Prod.mk.injEq] at h
            obtain rfl := h
            have h := hg69; clear hg69
            refine wl_pure (v := .bool true) tt_ok rfl rfl ?_
            refine wl_pure tt_ok rfl rfl ?_
            replace h := bsome h; obtain ⟨v73, h, hg73⟩ := h
            replace h := ct rfl h
            refine wl_skip rfl rfl ?_
            refine wl_skip rfl rfl ?_
            simp only [Option.some.injEq, Prod.mk.injEq] at h
            obtain rfl := h
            have h := hg73; clear hg73
            refine wl_pure (v := .bool true) tt_ok rfl rfl ?_
            refine wl_pure tt_ok rfl rfl ?_
            replace h := bsome h; obtain ⟨v76, h, hg76⟩ := h
            replace h := ct rfl h
            refine wl_skip rfl rfl ?_
            simp only [Option.some.injEq, Prod.mk.injEq] at h
            obtain rfl := h
            have h := hg76; clear hg76
            refine wl_pure (v := .bool true) tt_ok rfl rfl ?_
            refine wl_nil ?_
            refine wx_then ?_
            replace h := ct rfl h
            refine wc_cond_true rfl ?_
            refine wc_seq ?_
            refine wc_region ?_
            refine wl_pure tt_ok rfl rfl ?_
            refine wl_nil ?_
            refine wx_then ?_
            refine wc_ret ?_
            refine wx_then_ret ?_
            simp only [Option.some.injEq] at h
            obtain rfl := h
            exact wx_pf tt_ok (.inl rfl) Try.results9 (Res.tmp rfl Res.nil) rfl
          · replace h := cf hc h
            refine wl_run rfl ?_
            refine wl_pure tt_ok rfl rfl ?_
            refine wl_run rfl ?_
            refine wl_pure (v := .bool (v18_0 != (-1 : Int))) tt_ok rfl rfl ?_
            simp only [Option.some.injEq, Prod.mk.injEq] at h
            obtain rfl := h
            have h := hg42; clear hg42
            refine wl_pure (v := .bool (v18_0 != (-1 : Int))) tt_ok rfl rfl ?_
            refine wl_pure tt_ok rfl rfl ?_
            replace h := bsome h; obtain ⟨v46, h, hg46⟩ := h
            refine wl_split (t := 43) rfl (fun hc => ?_) (fun hc => ?_)
            · replace h := ct hc h
              refine wl_skip rfl rfl ?_
              refine wl_skip rfl rfl ?_
              simp only [Option.some.injEq, Prod.mk.injEq] at h
              obtain rfl := h
              have h := hg46; clear hg46
              refine wl_pure (v := .bool true) tt_ok rfl rfl ?_
              refine wl_pure tt_ok rfl rfl ?_
              replace h := bsome h; obtain ⟨v50, h, hg50⟩ := h
              replace h := ct rfl h
              refine wl_skip rfl rfl ?_
              refine wl_skip rfl rfl ?_
              simp only [Option.some.injEq, Prod.mk.injEq] at h
              obtain rfl := h
              have h := hg50; clear hg50
              refine wl_pure (v := .bool true) tt_ok rfl rfl ?_
              refine wl_pure tt_ok rfl rfl ?_
              replace h := bsome h; obtain ⟨v55, h, hg55⟩ := h
              replace h := ct rfl h
              refine wl_skip rfl rfl ?_
              refine wl_skip rfl rfl ?_
              refine wl_skip rfl rfl ?_
              simp only [Option.some.injEq, Prod.mk.injEq] at h
              obtain rfl := h
              have h := hg55; clear hg55
              refine wl_pure (v := .bool true) tt_ok rfl rfl ?_
              refine wl_pure tt_ok rfl rfl ?_
              replace h := bsome h; obtain ⟨v59, h, hg59⟩ := h
              replace h := ct rfl h
              refine wl_skip rfl rfl ?_
              refine wl_skip rfl rfl ?_
              simp only [Option.some.injEq, Prod.mk.injEq] at h
              obtain rfl := h
              have h := hg59; clear hg59
              refine wl_pure (v := .bool true) tt_ok rfl rfl ?_
              refine wl_pure tt_ok rfl rfl ?_
              replace h := bsome h; obtain ⟨v62, h, hg62⟩ := h
              replace h := ct rfl h
              refine wl_skip rfl rfl ?_
              simp only [Option.some.injEq, Prod.mk.injEq] at h
              obtain rfl := h
              have h := hg62; clear hg62
              refine wl_pure (v := .bool true) tt_ok rfl rfl ?_
              refine wl_pure tt_ok rfl rfl ?_
              replace h := bsome h; obtain ⟨v66, h, hg66⟩ := h
              replace h := ct rfl h
              refine wl_skip rfl rfl ?_
              refine wl_skip rfl rfl ?_
              simp only [Option.some.injEq, Prod.mk.injEq] at h
              obtain rfl := h
              have h := hg66; clear hg66
              refine wl_pure (v := .bool true) tt_ok rfl rfl ?_
              refine wl_pure tt_ok rfl rfl ?_
              replace h := bsome h; obtain ⟨v69, h, hg69⟩ := h
              replace h := ct rfl h
              refine wl_skip rfl rfl ?_
              simp only [Option.some.injEq, Prod.mk.injEq] at h
              obtain rfl := h
              have h := hg69; clear hg69
              refine wl_pure (v := .bool true) tt_ok rfl rfl ?_
              refine wl_pure tt_ok rfl rfl ?_
              replace h := bsome h; obtain ⟨v73, h, hg73⟩ := h
              replace h := ct rfl h
              refine wl_skip rfl rfl ?_
              refine wl_skip rfl rfl ?_
              simp only [Option.some.injEq, Prod.mk.injEq] at h
              obtain rfl := h
              have h := hg73; clear hg73
              refine wl_pure (v := .bool true) tt_ok rfl rfl ?_
              refine wl_pure tt_ok rfl rfl ?_
              replace h := bsome h; obtain ⟨v76, h, hg76⟩ := h
              replace h := ct rfl h
              refine wl_skip rfl rfl ?_
              simp only [Option.some.injEq, Prod.mk.injEq] at h
              obtain rfl := h
              have h := hg76; clear hg76
              refine wl_pure (v := .bool true) tt_ok rfl rfl ?_
              refine wl_nil ?_
              refine wx_then ?_
              replace h := ct rfl h
              refine wc_cond_true rfl ?_
              refine wc_seq ?_
              refine wc_region ?_
              refine wl_pure tt_ok rfl rfl ?_
              refine wl_nil ?_
              refine wx_then ?_
              refine wc_ret ?_
              refine wx_then_ret ?_
              simp only [Option.some.injEq] at h
              obtain rfl := h
              exact wx_pf tt_ok (.inl rfl) Try.results9 (Res.tmp rfl Res.nil) rfl
            · replace h := cf hc h
              refine wl_run rfl ?_
              refine wl_pure tt_ok rfl rfl ?_
              refine wl_run rfl ?_
              refine wl_pure (v := .bool (v18_1 != (1 : Int))) tt_ok rfl rfl ?_
              simp only [Option.some.injEq, Prod.mk.injEq] at h
              obtain rfl := h
              have h := hg46; clear hg46
              refine wl_pure (v := .bool (v18_1 != (1 : Int))) tt_ok rfl rfl ?_
              refine wl_pure tt_ok rfl rfl ?_
              replace h := bsome h; obtain ⟨v50, h, hg50⟩ := h
              refine wl_split (t := 47) rfl (fun hc => ?_) (fun hc => ?_)
              · replace h := ct hc h
                refine wl_skip rfl rfl ?_
                refine wl_skip rfl rfl ?_
                simp only [Option.some.injEq, Prod.mk.injEq] at h
                obtain rfl := h
                have h := hg50; clear hg50
                refine wl_pure (v := .bool true) tt_ok rfl rfl ?_
                refine wl_pure tt_ok rfl rfl ?_
                replace h := bsome h; obtain ⟨v55, h, hg55⟩ := h
                replace h := ct rfl h
                refine wl_skip rfl rfl ?_
                refine wl_skip rfl rfl ?_
                refine wl_skip rfl rfl ?_
                simp only [Option.some.injEq, Prod.mk.injEq] at h
                obtain rfl := h
                have h := hg55; clear hg55
                refine wl_pure (v := .bool true) tt_ok rfl rfl ?_
                refine wl_pure tt_ok rfl rfl ?_
                replace h := bsome h; obtain ⟨v59, h, hg59⟩ := h
                replace h := ct rfl h
                refine wl_skip rfl rfl ?_
                refine wl_skip rfl rfl ?_
                simp only [Option.some.injEq, Prod.mk.injEq] at h
                obtain rfl := h
                have h := hg59; clear hg59
                refine wl_pure (v := .bool true) tt_ok rfl rfl ?_
                refine wl_pure tt_ok rfl rfl ?_
                replace h := bsome h; obtain ⟨v62, h, hg62⟩ := h
                replace h := ct rfl h
                refine wl_skip rfl rfl ?_
                simp only [Option.some.injEq, Prod.mk.injEq] at h
                obtain rfl := h
                have h := hg62; clear hg62
                refine wl_pure (v := .bool true) tt_ok rfl rfl ?_
                refine wl_pure tt_ok rfl rfl ?_
                replace h := bsome h; obtain ⟨v66, h, hg66⟩ := h
                replace h := ct rfl h
                refine wl_skip rfl rfl ?_
                refine wl_skip rfl rfl ?_
                simp only [Option.some.injEq, Prod.mk.injEq] at h
                obtain rfl := h
                have h := hg66; clear hg66
                refine wl_pure (v := .bool true) tt_ok rfl rfl ?_
                refine wl_pure tt_ok rfl rfl ?_
                replace h := bsome h; obtain ⟨v69, h, hg69⟩ := h
                replace h := ct rfl h
                refine wl_skip rfl rfl ?_
                simp only [Option.some.injEq, Prod.mk.injEq] at h
                obtain rfl := h
                have h := hg69; clear hg69
                refine wl_pure (v := .bool true) tt_ok rfl rfl ?_
                refine wl_pure tt_ok rfl rfl ?_
                replace h := bsome h; obtain ⟨v73, h, hg73⟩ := h
                replace h := ct rfl h
                refine wl_skip rfl rfl ?_
                refine wl_skip rfl rfl ?_
                simp only [Option.some.injEq, Prod.mk.injEq] at h
                obtain rfl := h
                have h := hg73; clear hg73
                refine wl_pure (v := .bool true) tt_ok rfl rfl ?_
                refine wl_pure tt_ok rfl rfl ?_
                replace h := bsome h; obtain ⟨v76, h, hg76⟩ := h
                replace h := ct rfl h
                refine wl_skip rfl rfl ?_
                simp only [Option.some.injEq, Prod.mk.injEq] at h
                obtain rfl := h
                have h := hg76; clear hg76
                refine wl_pure (v := .bool true) tt_ok rfl rfl ?_
                refine wl_nil ?_
                refine wx_then ?_
                replace h := ct rfl h
                refine wc_cond_true rfl ?_
                refine wc_seq ?_
                refine wc_region ?_
                refine wl_pure tt_ok rfl rfl ?_
                refine wl_nil ?_
                refine wx_then ?_
                refine wc_ret ?_
                refine wx_then_ret ?_
                simp only [Option.some.injEq] at h
                obtain rfl := h
                exact wx_pf tt_ok (.inl rfl) Try.results9 (Res.tmp rfl Res.nil) rfl
              · replace h := cf hc h
                replace h := bsome h; obtain ⟨v48, x48, h⟩ := h
                refine wl_run rfl ?_
                refine wl_cq Try.call15 rfl rfl rfl (q_pf (k_input_Pack rfl (Nat.le_refl _) x48) (fun _ _ => Rds.nil)) rfl ?_
                refine wl_run rfl ?_
                refine wl_val (v := .bool (!(v48 == ([0] : List UInt8)))) (val_sne tt_ok rfl rfl) rfl ?_
                simp only [Option.some.injEq, Prod.mk.injEq] at h
                obtain rfl := h
                have h := hg50; clear hg50
                refine wl_pure (v := .bool (!(v48 == ([0] : List UInt8)))) tt_ok rfl rfl ?_
                refine wl_pure tt_ok rfl rfl ?_
                replace h := bsome h; obtain ⟨v55, h, hg55⟩ := h
                refine wl_split (t := 51) rfl (fun hc => ?_) (fun hc => ?_)
                · replace h := ct hc h
                  refine wl_skip rfl rfl ?_
                  refine wl_skip rfl rfl ?_
                  refine wl_skip rfl rfl ?_
                  simp only [Option.some.injEq, Prod.mk.injEq] at h
                  obtain rfl := h
                  have h := hg55; clear hg55
                  refine wl_pure (v := .bool true) tt_ok rfl rfl ?_
                  refine wl_pure tt_ok rfl rfl ?_
                  replace h := bsome h; obtain ⟨v59, h, hg59⟩ := h
                  replace h := ct rfl h
                  refine wl_skip rfl rfl ?_
                  refine wl_skip rfl rfl ?_
                  simp only [Option.some.injEq, Prod.mk.injEq] at h
                  obtain rfl := h
                  have h := hg59; clear hg59
                  refine wl_pure (v := .bool true) tt_ok rfl rfl ?_
                  refine wl_pure tt_ok rfl rfl ?_
                  replace h := bsome h; obtain ⟨v62, h, hg62⟩ := h
                  replace h := ct rfl h
                  refine wl_skip rfl rfl ?_
                  simp only [Option.some.injEq, Prod.mk.injEq] at h
                  obtain rfl := h
                  have h := hg62; clear hg62
                  refine wl_pure (v := .bool true) tt_ok rfl rfl ?_
                  refine wl_pure tt_ok rfl rfl ?_
                  replace h := bsome h; obtain ⟨v66, h, hg66⟩ := h
                  replace h := ct rfl h
                  refine wl_skip rfl rfl ?_
                  refine wl_skip rfl rfl ?_
                  simp only [Option.some.injEq, Prod.mk.injEq] at h
                  obtain rfl := h
                  have h := hg66; clear hg66
                  refine wl_pure (v := .bool true) tt_ok rfl rfl ?_
                  refine wl_pure tt_ok rfl rfl ?_
                  replace h := bsome h; obtain ⟨v69, h, hg69⟩ := h
                  replace h := ct rfl h
                  refine wl_skip rfl rfl ?_
                  simp only [Option.some.injEq, Prod.mk.injEq] at h
                  obtain rfl := h
                  have h := hg69; clear hg69
                  refine wl_pure (v := .bool true) tt_ok rfl rfl ?_
                  refine wl_pure tt_ok rfl rfl ?_
                  replace h := bsome h; obtain ⟨v73, h, hg73⟩ := h
                  replace h := ct rfl h
                  refine wl_skip rfl rfl ?_
                  refine wl_skip rfl rfl ?_
                  simp only [Option.some.injEq, Prod.mk.injEq] at h
                  obtain rfl := h
                  have h := hg73; clear hg73
                  refine wl_pure (v := .bool true) tt_ok rfl rfl ?_
                  refine wl_pure tt_ok rfl rfl ?_
                  replace h := bsome h; obtain ⟨v76, h, hg76⟩ := h
                  replace h := ct rfl h
                  refine wl_skip rfl rfl ?_
                  simp only [Option.some.injEq, Prod.mk.injEq] at h
                  obtain rfl := h
                  have h := hg76; clear hg76
                  refine wl_pure (v := .bool true) tt_ok rfl rfl ?_
                  refine wl_nil ?_
                  refine wx_then ?_
                  replace h := ct rfl h
                  refine wc_cond_true rfl ?_
                  refine wc_seq ?_
                  refine wc_region ?_
                  refine wl_pure tt_ok rfl rfl ?_
                  refine wl_nil ?_
                  refine wx_then ?_
                  refine wc_ret ?_
                  refine wx_then_ret ?_
                  simp only [Option.some.injEq] at h
                  obtain rfl := h
                  exact wx_pf tt_ok (.inl rfl) Try.results9 (Res.tmp rfl Res.nil) rfl
                · replace h := cf hc h
                  refine wl_run rfl ?_
                  refine wl_chg (chg_bs tt_ok rfl rfl rfl rfl rfl) rfl ?_
                  rintro _ _ ⟨b52, rfl, rfl⟩
                  replace h := bsome h; obtain ⟨v53, x53, h⟩ := h
                  refine wl_run rfl ?_
                  refine wl_cq Try.call15 rfl rfl rfl (q_pf (k_input_Pack rfl (Nat.le_refl _) x53) (Rds.call (Rds.of_blk (t := 35) (fz := (0, 0))) pNil ⟨_, Sel.hc⟩)) rfl ?_
                  refine wl_run rfl ?_
                  refine wl_val (v := .bool (!(v53 == ([] : List UInt8)))) (val_sne tt_ok rfl rfl) rfl ?_
                  simp only [Option.some.injEq, Prod.mk.injEq] at h
                  obtain rfl := h
                  have h := hg55; clear hg55
                  refine wl_pure (v := .bool (!(v53 == ([] : List UInt8)))) tt_ok rfl rfl ?_
                  refine wl_pure tt_ok rfl rfl ?_
                  replace h := bsome h; obtain ⟨v59, h, hg59⟩ := h
                  refine wl_split (t := 56) rfl (fun hc => ?_) (fun hc => ?_)
                  · replace h := ct hc h
                    refine wl_skip rfl rfl ?_
                    refine wl_skip rfl rfl ?_
                    simp only [Option.some.injEq, Prod.mk.injEq] at h
                    obtain rfl := h
                    have h := hg59; clear hg59
                    refine wl_pure (v := .bool true) tt_ok rfl rfl ?_
                    refine wl_pure tt_ok rfl rfl ?_
                    replace h := bsome h; obtain ⟨v62, h, hg62⟩ := h
                    replace h := ct rfl h
                    refine wl_skip rfl rfl ?_
                    simp only [Option.some.injEq, Prod.mk.injEq] at h
                    obtain rfl := h
                    have h := hg62; clear hg62
                    refine wl_pure (v := .bool true) tt_ok rfl rfl ?_
                    refine wl_pure tt_ok rfl rfl ?_
                    replace h := bsome h; obtain ⟨v66, h, hg66⟩ := h
                    replace h := ct rfl h
                    refine wl_skip rfl rfl ?_
                    refine wl_skip rfl rfl ?_
                    simp only [Option.some.injEq, Prod.mk.injEq] at h
                    obtain rfl := h
                    have h := hg66; clear hg66
                    refine wl_pure (v := .bool true) tt_ok rfl rfl ?_
                    refine wl_pure tt_ok rfl rfl ?_
                    replace h := bsome h; obtain ⟨v69, h, hg69⟩ := h
                    replace h := ct rfl h
                    refine wl_skip rfl rfl ?_
                    simp only [Option.some.injEq, Prod.mk.injEq] at h
                    obtain rfl := h
                    have h := hg69; clear hg69
                    refine wl_pure (v := .bool true) tt_ok rfl rfl ?_
                    refine wl_pure tt_ok rfl rfl ?_
                    replace h := bsome h; obtain ⟨v73, h, hg73⟩ := h
                    replace h := ct rfl h
                    refine wl_skip rfl rfl ?_
                    refine wl_skip rfl rfl ?_
                    simp only [Option.some.injEq, Prod.mk.injEq] at h
                    obtain rfl := h
                    have h := hg73; clear hg73
                    refine wl_pure (v := .bool true) tt_ok rfl rfl ?_
                    refine wl_pure tt_ok rfl rfl ?_
                    replace h := bsome h; obtain ⟨v76, h, hg76⟩ := h
                    replace h := ct rfl h
                    refine wl_skip rfl rfl ?_
                    simp only [Option.some.injEq, Prod.mk.injEq] at h
                    obtain rfl := h
                    have h := hg76; clear hg76
                    refine wl_pure (v := .bool true) tt_ok rfl rfl ?_
                    refine wl_nil ?_
                    refine wx_then ?_
                    replace h := ct rfl h
                    refine wc_cond_true rfl ?_
                    refine wc_seq ?_
                    refine wc_region ?_
                    refine wl_pure tt_ok rfl rfl ?_
                    refine wl_nil ?_
                    refine wx_then ?_
                    refine wc_ret ?_
                    refine wx_then_ret ?_
                    simp only [Option.some.injEq] at h
                    obtain rfl := h
                    exact wx_pf tt_ok (.inl rfl) Try.results9 (Res.tmp rfl Res.nil) rfl
                  · replace h := cf hc h
                    replace h := bsome h; obtain ⟨v57, x57, h⟩ := h
                    refine wl_run rfl ?_
                    refine wl_cq Try.call18 rfl rfl rfl (q_pf (k_input_Legal x57) (fun _ _ => trivial)) rfl ?_
                    refine wl_run rfl ?_
                    refine wl_pure (v := .bool (!v57)) tt_ok rfl rfl ?_
                    simp only [Option.some.injEq, Prod.mk.injEq] at h
                    obtain rfl := h
                    have h := hg59; clear hg59
                    refine wl_pure (v := .bool (!v57)) tt_ok rfl rfl ?_
                    refine wl_pure tt_ok rfl rfl ?_
                    replace h := bsome h; obtain ⟨v62, h, hg62⟩ := h
                    refine wl_split (t := 60) rfl (fun hc => ?_) (fun hc => ?_)
                    · replace h := ct hc h
                      refine wl_skip rfl rfl ?_
                      simp only [Option.some.injEq, Prod.mk.injEq] at h
                      obtain rfl := h
                      have h := hg62; clear hg62
                      refine wl_pure (v := .bool true) tt_ok rfl rfl ?_
                      refine wl_pure tt_ok rfl rfl ?_
                      replace h := bsome h; obtain ⟨v66, h, hg66⟩ := h
                      replace h := ct rfl h
                      refine wl_skip rfl rfl ?_
                      refine wl_skip rfl rfl ?_
                      simp only [Option.some.injEq, Prod.mk.injEq] at h
                      obtain rfl := h
                      have h := hg66; clear hg66
                      refine wl_pure (v := .bool true) tt_ok rfl rfl ?_
                      refine wl_pure tt_ok rfl rfl ?_
                      replace h := bsome h; obtain ⟨v69, h, hg69⟩ := h
                      replace h := ct rfl h
                      refine wl_skip rfl rfl ?_
                      simp only [Option.some.injEq, Prod.mk.injEq] at h
                      obtain rfl := h
                      have h := hg69; clear hg69
                      refine wl_pure (v := .bool true) tt_ok rfl rfl ?_
                      refine wl_pure tt_ok rfl rfl ?_
                      replace h := bsome h; obtain ⟨v73, h, hg73⟩ := h
                      replace h := ct rfl h
                      refine wl_skip rfl rfl ?_
                      refine wl_skip rfl rfl ?_
                      simp only [Option.some.injEq, Prod.mk.injEq] at h
                      obtain rfl := h
                      have h := hg73; clear hg73
                      refine wl_pure (v := .bool true) tt_ok rfl rfl ?_
                      refine wl_pure tt_ok rfl rfl ?_
                      replace h := bsome h; obtain ⟨v76, h, hg76⟩ := h
                      replace h := ct rfl h
                      refine wl_skip rfl rfl ?_
                      simp only [Option.some.injEq, Prod.mk.injEq] at h
                      obtain rfl := h
                      have h := hg76; clear hg76
                      refine wl_pure (v := .bool true) tt_ok rfl rfl ?_
                      refine wl_nil ?_
                      refine wx_then ?_
                      replace h := ct rfl h
                      refine wc_cond_true rfl ?_
                      refine wc_seq ?_
                      refine wc_region ?_
                      refine wl_pure tt_ok rfl rfl ?_
                      refine wl_nil ?_
                      refine wx_then ?_
                      refine wc_ret ?_
                      refine wx_then_ret ?_
                      simp only [Option.some.injEq] at h
                      obtain rfl := h
                      exact wx_pf tt_ok (.inl rfl) Try.results9 (Res.tmp rfl Res.nil) rfl
                    · replace h := cf hc h
                      replace h := bsome h; obtain ⟨v61, x61, h⟩ := h
                      refine wl_run rfl ?_
                      refine wl_cq Try.call18 rfl rfl rfl (q_pf (k_input_Legal x61) (fun _ _ => trivial)) rfl ?_
                      simp only [Option.some.injEq, Prod.mk.injEq] at h
                      obtain rfl := h
                      have h := hg62; clear hg62
                      refine wl_pure (v := .bool v61) tt_ok rfl rfl ?_
                      refine wl_pure tt_ok rfl rfl ?_
                      replace h := bsome h; obtain ⟨v66, h, hg66⟩ := h
                      refine wl_split (t := 63) rfl (fun hc => ?_) (fun hc => ?_)
                      · replace h := ct hc h
                        refine wl_skip rfl rfl ?_
                        refine wl_skip rfl rfl ?_
                        simp only [Option.some.injEq, Prod.mk.injEq] at h
                        obtain rfl := h
                        have h := hg66; clear hg66
                        refine wl_pure (v := .bool true) tt_ok rfl rfl ?_
                        refine wl_pure tt_ok rfl rfl ?_
                        replace h := bsome h; obtain ⟨v69, h, hg69⟩ := h
                        replace h := ct rfl h
                        refine wl_skip rfl rfl ?_
                        simp only [Option.some.injEq, Prod.mk.injEq] at h
                        obtain rfl := h
                        have h := hg69; clear hg69
                        refine wl_pure (v := .bool true) tt_ok rfl rfl ?_
                        refine wl_pure tt_ok rfl rfl ?_
                        replace h := bsome h; obtain ⟨v73, h, hg73⟩ := h
                        replace h := ct rfl h
                        refine wl_skip rfl rfl ?_
                        refine wl_skip rfl rfl ?_
                        simp only [Option.some.injEq, Prod.mk.injEq] at h
                        obtain rfl := h
                        have h := hg73; clear hg73
                        refine wl_pure (v := .bool true) tt_ok rfl rfl ?_
                        refine wl_pure tt_ok rfl rfl ?_
                        replace h := bsome h; obtain ⟨v76, h, hg76⟩ := h
                        replace h := ct rfl h
                        refine wl_skip rfl rfl ?_
                        simp only [Option.some.injEq, Prod.mk.injEq] at h
                        obtain rfl := h
                        have h := hg76; clear hg76
                        refine wl_pure (v := .bool true) tt_ok rfl rfl ?_
                        refine wl_nil ?_
                        refine wx_then ?_
                        replace h := ct rfl h
                        refine wc_cond_true rfl ?_
                        refine wc_seq ?_
                        refine wc_region ?_
                        refine wl_pure tt_ok rfl rfl ?_
                        refine wl_nil ?_
                        refine wx_then ?_
                        refine wc_ret ?_
                        refine wx_then_ret ?_
                        simp only [Option.some.injEq] at h
                        obtain rfl := h
                        exact wx_pf tt_ok (.inl rfl) Try.results9 (Res.tmp rfl Res.nil) rfl
                      · replace h := cf hc h
                        replace h := bsome h; obtain ⟨v64, x64, h⟩ := h
                        refine wl_run rfl ?_
                        refine wl_cq Try.call20 rfl rfl rfl (q_pf (k_input_Fire x64) (fun _ _ => trivial)) rfl ?_
                        refine wl_run rfl ?_
                        refine wl_pure (v := .bool (!v64)) tt_ok rfl rfl ?_
                        simp only [Option.some.injEq, Prod.mk.injEq] at h
                        obtain rfl := h
                        have h := hg66; clear hg66
                        refine wl_pure (v := .bool (!v64)) tt_ok rfl rfl ?_
                        refine wl_pure tt_ok rfl rfl ?_
                        replace h := bsome h; obtain ⟨v69, h, hg69⟩ := h
                        refine wl_split (t := 67) rfl (fun hc => ?_) (fun hc => ?_)
                        · replace h := ct hc h
                          refine wl_skip rfl rfl ?_
                          simp only [Option.some.injEq, Prod.mk.injEq] at h
                          obtain rfl := h
                          have h := hg69; clear hg69
                          refine wl_pure (v := .bool true) tt_ok rfl rfl ?_
                          refine wl_pure tt_ok rfl rfl ?_
                          replace h := bsome h; obtain ⟨v73, h, hg73⟩ := h
                          replace h := ct rfl h
                          refine wl_skip rfl rfl ?_
                          refine wl_skip rfl rfl ?_
                          simp only [Option.some.injEq, Prod.mk.injEq] at h
                          obtain rfl := h
                          have h := hg73; clear hg73
                          refine wl_pure (v := .bool true) tt_ok rfl rfl ?_
                          refine wl_pure tt_ok rfl rfl ?_
                          replace h := bsome h; obtain ⟨v76, h, hg76⟩ := h
                          replace h := ct rfl h
                          refine wl_skip rfl rfl ?_
                          simp only [Option.some.injEq, Prod.mk.injEq] at h
                          obtain rfl := h
                          have h := hg76; clear hg76
                          refine wl_pure (v := .bool true) tt_ok rfl rfl ?_
                          refine wl_nil ?_
                          refine wx_then ?_
                          replace h := ct rfl h
                          refine wc_cond_true rfl ?_
                          refine wc_seq ?_
                          refine wc_region ?_
                          refine wl_pure tt_ok rfl rfl ?_
                          refine wl_nil ?_
                          refine wx_then ?_
                          refine wc_ret ?_
                          refine wx_then_ret ?_
                          simp only [Option.some.injEq] at h
                          obtain rfl := h
                          exact wx_pf tt_ok (.inl rfl) Try.results9 (Res.tmp rfl Res.nil) rfl
                        · replace h := cf hc h
                          replace h := bsome h; obtain ⟨v68, x68, h⟩ := h
                          refine wl_run rfl ?_
                          refine wl_cq Try.call20 rfl rfl rfl (q_pf (k_input_Fire x68) (fun _ _ => trivial)) rfl ?_
                          simp only [Option.some.injEq, Prod.mk.injEq] at h
                          obtain rfl := h
                          have h := hg69; clear hg69
                          refine wl_pure (v := .bool v68) tt_ok rfl rfl ?_
                          refine wl_pure tt_ok rfl rfl ?_
                          replace h := bsome h; obtain ⟨v73, h, hg73⟩ := h
                          refine wl_split (t := 70) rfl (fun hc => ?_) (fun hc => ?_)
                          · replace h := ct hc h
                            refine wl_skip rfl rfl ?_
                            refine wl_skip rfl rfl ?_
                            simp only [Option.some.injEq, Prod.mk.injEq] at h
                            obtain rfl := h
                            have h := hg73; clear hg73
                            refine wl_pure (v := .bool true) tt_ok rfl rfl ?_
                            refine wl_pure tt_ok rfl rfl ?_
                            replace h := bsome h; obtain ⟨v76, h, hg76⟩ := h
                            replace h := ct rfl h
                            refine wl_skip rfl rfl ?_
                            simp only [Option.some.injEq, Prod.mk.injEq] at h
                            obtain rfl := h
                            have h := hg76; clear hg76
                            refine wl_pure (v := .bool true) tt_ok rfl rfl ?_
                            refine wl_nil ?_
                            refine wx_then ?_
                            replace h := ct rfl h
                            refine wc_cond_true rfl ?_
                            refine wc_seq ?_
                            refine wc_region ?_
                            refine wl_pure tt_ok rfl rfl ?_
                            refine wl_nil ?_
                            refine wx_then ?_
                            refine wc_ret ?_
                            refine wx_then_ret ?_
                            simp only [Option.some.injEq] at h
                            obtain rfl := h
                            exact wx_pf tt_ok (.inl rfl) Try.results9 (Res.tmp rfl Res.nil) rfl
                          · replace h := cf hc h
                            replace h := bsome h; obtain ⟨v71, x71, h⟩ := h
                            refine wl_run rfl ?_
                            refine wl_cq Try.call22 rfl rfl rfl (q_pf (k_input_Dash x71) (fun _ _ => trivial)) rfl ?_
                            refine wl_run rfl ?_
                            refine wl_pure (v := .bool (!v71)) tt_ok rfl rfl ?_
                            simp only [Option.some.injEq, Prod.mk.injEq] at h
                            obtain rfl := h
                            have h := hg73; clear hg73
                            refine wl_pure (v := .bool (!v71)) tt_ok rfl rfl ?_
                            refine wl_pure tt_ok rfl rfl ?_
                            replace h := bsome h; obtain ⟨v76, h, hg76⟩ := h
                            refine wl_split (t := 74) rfl (fun hc => ?_) (fun hc => ?_)
                            · replace h := ct hc h
                              refine wl_skip rfl rfl ?_
                              simp only [Option.some.injEq, Prod.mk.injEq] at h
                              obtain rfl := h
                              have h := hg76; clear hg76
                              refine wl_pure (v := .bool true) tt_ok rfl rfl ?_
                              refine wl_nil ?_
                              refine wx_then ?_
                              replace h := ct rfl h
                              refine wc_cond_true rfl ?_
                              refine wc_seq ?_
                              refine wc_region ?_
                              refine wl_pure tt_ok rfl rfl ?_
                              refine wl_nil ?_
                              refine wx_then ?_
                              refine wc_ret ?_
                              refine wx_then_ret ?_
                              simp only [Option.some.injEq] at h
                              obtain rfl := h
                              exact wx_pf tt_ok (.inl rfl) Try.results9 (Res.tmp rfl Res.nil) rfl
                            · replace h := cf hc h
                              replace h := bsome h; obtain ⟨v75, x75, h⟩ := h
                              refine wl_run rfl ?_
                              refine wl_cq Try.call22 rfl rfl rfl (q_pf (k_input_Dash x75) (fun _ _ => trivial)) rfl ?_
                              simp only [Option.some.injEq, Prod.mk.injEq] at h
                              obtain rfl := h
                              have h := hg76; clear hg76
                              refine wl_pure (v := .bool v75) tt_ok rfl rfl ?_
                              refine wl_nil ?_
                              refine wx_then ?_
                              refine wc_cond rfl (fun hc => ?_) (fun hc => ?_)
                              · replace h := ct hc h
                                refine wc_seq ?_
                                refine wc_region ?_
                                refine wl_pure tt_ok rfl rfl ?_
                                refine wl_nil ?_
                                refine wx_then ?_
                                refine wc_ret ?_
                                refine wx_then_ret ?_
                                simp only [Option.some.injEq] at h
                                obtain rfl := h
                                exact wx_pf tt_ok (.inl rfl) Try.results9 (Res.tmp rfl Res.nil) rfl
                              · replace h := cf hc h
                                refine wc_skip ?_
                                refine wx_then ?_
                                refine wc_seq ?_
                                refine wc_region ?_
                                refine wl_chg (chg_bs tt_ok rfl rfl rfl rfl rfl) rfl ?_
                                rintro _ _ ⟨b77, rfl, rfl⟩
                                refine wl_pure tt_ok rfl rfl ?_
                                refine wl_nil ?_
                                refine wx_then ?_
                                refine wc_seq ?_
                                refine wc_seq ?_
                                refine wc_region ?_
                                refine wl_pure tt_ok rfl rfl ?_
                                refine wl_nil ?_
                                refine wx_then ?_
                                refine wc_block ?_
                                replace h := bsome h; obtain ⟨o23, h, hl23⟩ := h
                                refine wc_loop (fun m E L => ∃ (j23_8 : Int), m_hindcastlaw06_InputKnown_L22 F m j23_8 = some o23 ∧ E = [(0, .bool false), (7, .slice (some ⟨b77, 0, none⟩) 4 4), (8, .int .i64 j23_8)] ∧ L = (⟨b77, [.string ⟨([2, 1, 5, 1, 5] : List UInt8).toArray⟩, .string ⟨([1, 0, 5] : List UInt8).toArray⟩, .string ⟨([1, 1, 64] : List UInt8).toArray⟩, .string ⟨([0, 0] : List UInt8).toArray⟩], 9, (0, 0)⟩ :: [])) F ⟨(0 : Int), h, rfl, rfl⟩ (agree_cons rfl (agree_cons rfl (agree_cons rfl agree_nil))) (pSub (pCons Sel.hc pNil)) ?_
                                clear h
                                rintro m23 _ _ ⟨j23_8, h, rfl, rfl⟩
                                rcases m23 with _ | m23
                                · rw [m_hindcastlaw06_InputKnown_L22.eq_1] at h; cases h
                                rw [m_hindcastlaw06_InputKnown_L22.eq_2] at h
                                refine wc_seq ?_
                                refine wc_seq ?_
                                refine wc_region ?_
                                refine wl_pure tt_ok rfl rfl ?_
                                refine wl_pure tt_ok rfl rfl ?_
                                refine wl_val (v := .int .i64 (([([2, 1, 5, 1, 5] : List UInt8), ([1, 0, 5] : List UInt8), ([1, 1, 64] : List UInt8), ([0, 0] : List UInt8)] : List (List UInt8)).length : Int)) (val_len tt_ok rfl rfl rfl) rfl ?_
                                refine wl_pure (v := .bool (decide (j23_8 < (([([2, 1, 5, 1, 5] : List UInt8), ([1, 0, 5] : List UInt8), ([1, 1, 64] : List UInt8), ([0, 0] : List UInt8)] : List (List UInt8)).length : Int)))) tt_ok rfl rfl ?_
                                refine wl_nil ?_
                                refine wx_then ?_
                                refine wc_cond rfl (fun hc => ?_) (fun hc => ?_)
                                · replace h := ct hc h
                                  refine wc_skip ?_
                                  refine wx_then ?_
                                  refine wc_seq ?_
                                  refine wc_block ?_
                                  refine wc_seq ?_
                                  refine wc_region ?_
                                  refine wl_pure tt_ok rfl rfl ?_
                                  refine wl_pure tt_ok rfl rfl ?_
                                  replace h := bsome h; obtain ⟨v86, x86, h⟩ := h
                                  refine wl_val (v := .pointer (some ((adOf (some ⟨b77, 0, none⟩)).add (j23_8.toNat * 1 + 0)))) (val_ix (enc := eS) tt_ok rfl rfl rfl rfl rfl (Rds.of_blk (t := 9) (fz := (0, 0))) eS_len rfl x86) rfl ?_
                                  refine wl_val (v := .string ⟨v86.toArray⟩) (val_le (enc := eS) (xs := ([([2, 1, 5, 1, 5] : List UInt8), ([1, 0, 5] : List UInt8), ([1, 1, 64] : List UInt8), ([0, 0] : List UInt8)] : List (List UInt8))) tt_ok rfl (Rds.of_blk (t := 9) (fz := (0, 0))) ⟨_, Sel.hc⟩ eS_len x86 rfl) rfl ?_
                                  replace h := bsome h; obtain ⟨v88, x88, h⟩ := h
                                  refine wl_cq Try.call27 rfl rfl rfl (q_pf (k_hindcastlaw06_fails x88) (fun _ _ => trivial)) rfl ?_
                                  refine wl_pure (v := .bool (!v88)) tt_ok rfl rfl ?_
                                  refine wl_nil ?_
                                  refine wx_then ?_
                                  refine wc_cond rfl (fun hc => ?_) (fun hc => ?_)
                                  · replace h := ct hc h
                                    refine wc_seq ?_
                                    refine wc_region ?_
                                    refine wl_pure tt_ok rfl rfl ?_
                                    refine wl_nil ?_
                                    refine wx_then ?_
                                    refine wc_ret ?_
                                    refine wx_block_ret ?_
                                    refine wx_then_ret ?_
                                    obtain rfl := Option.some.inj h
                                    have h := hl23; clear hl23; try dsimp only [orE_l, orE_r] at h
                                    refine wx_then_ret ?_
                                    refine wx_block_ret ?_
                                    refine wx_then_ret ?_
                                    simp only [Option.some.injEq] at h
                                    obtain rfl := h
                                    exact wx_pf tt_ok (.inl rfl) Try.results9 (Res.tmp rfl Res.nil) rfl
                                  · replace h := cf hc h
                                    refine wc_skip ?_
                                    refine wx_block ?_
                                    refine wx_then ?_
                                    refine wc_region ?_
                                    refine wl_pure tt_ok rfl rfl ?_
                                    refine wl_pure (v := .int .i64 (IntKind.wrap .i64 (j23_8 + (1 : Int)))) tt_ok rfl rfl ?_
                                    refine wl_pure tt_ok rfl rfl ?_
                                    refine wl_nil ?_
                                    exact wx_round m23 (Nat.lt_succ_self m23) ⟨(IntKind.wrap .i64 (j23_8 + (1 : Int))), h, rfl, rfl⟩ (agree_cons rfl (agree_cons rfl (agree_cons rfl agree_nil))) (pSub (pCons Sel.hc pNil))
                                · replace h := cf hc h
                                  refine wc_exit ?_
                                  refine wx_then_exit ?_
                                  obtain rfl := Option.some.inj h
                                  have h := hl23; clear hl23; try dsimp only [orE_l, orE_r] at h
                                  refine wx_then_exit ?_
                                  refine wx_block_exit ?_
                                  refine wx_then ?_
                                  refine wc_seq ?_
                                  refine wc_region ?_
                                  replace h := bsome h; obtain ⟨v90, x90, h⟩ := h
                                  refine wl_cq Try.call27 rfl rfl rfl (q_pf (k_hindcastlaw06_fails x90) (fun _ _ => trivial)) rfl ?_
                                  refine wl_pure tt_ok rfl rfl ?_
                                  replace h := bsome h; obtain ⟨v93, h, hg93⟩ := h
                                  refine wl_split (t := 91) rfl (fun hc => ?_) (fun hc => ?_)
                                  · replace h := ct hc h
                                    replace h := bsome h; obtain ⟨v92, x92, h⟩ := h
                                    refine wl_run rfl ?_
                                    refine wl_cq Try.call27 rfl rfl rfl (q_pf (k_hindcastlaw06_fails x92) (fun _ _ => trivial)) rfl ?_
                                    simp only [Option.some.injEq, Prod.mk.injEq] at h
                                    obtain rfl := h
                                    have h := hg93; clear hg93
                                    refine wl_pure (v := .bool v92) tt_ok rfl rfl ?_
                                    refine wl_pure tt_ok rfl rfl ?_
                                    replace h := bsome h; obtain ⟨v96, h, hg96⟩ := h
                                    refine wl_split (t := 94) rfl (fun hc => ?_) (fun hc => ?_)
                                    · replace h := ct hc h
                                      replace h := bsome h; obtain ⟨v95, x95, h⟩ := h
                                      refine wl_run rfl ?_
                                      refine wl_cq Try.call27 rfl rfl rfl (q_pf (k_hindcastlaw06_fails x95) (fun _ _ => trivial)) rfl ?_
                                      simp only [Option.some.injEq, Prod.mk.injEq] at h
                                      obtain rfl := h
                                      have h := hg96; clear hg96
                                      refine wl_pure (v := .bool v95) tt_ok rfl rfl ?_
                                      refine wl_pure tt_ok rfl rfl ?_
                                      replace h := bsome h; obtain ⟨v99, h, hg99⟩ := h
                                      refine wl_split (t := 97) rfl (fun hc => ?_) (fun hc => ?_)
                                      · replace h := ct hc h
                                        replace h := bsome h; obtain ⟨v98, x98, h⟩ := h
                                        refine wl_run rfl ?_
                                        refine wl_cq Try.call27 rfl rfl rfl (q_pf (k_hindcastlaw06_fails x98) (fun _ _ => trivial)) rfl ?_
                                        simp only [Option.some.injEq, Prod.mk.injEq] at h
                                        obtain rfl := h
                                        have h := hg99; clear hg99
                                        refine wl_pure (v := .bool v98) tt_ok rfl rfl ?_
                                        refine wl_pure tt_ok rfl rfl ?_
                                        replace h := bsome h; obtain ⟨v102, h, hg102⟩ := h
                                        refine wl_split (t := 100) rfl (fun hc => ?_) (fun hc => ?_)
                                        · replace h := ct hc h
                                          replace h := bsome h; obtain ⟨v101, x101, h⟩ := h
                                          refine wl_run rfl ?_
                                          refine wl_cq Try.call27 rfl rfl rfl (q_pf (k_hindcastlaw06_fails x101) (fun _ _ => trivial)) rfl ?_
                                          simp only [Option.some.injEq, Prod.mk.injEq] at h
                                          obtain rfl := h
                                          have h := hg102; clear hg102
                                          refine wl_pure (v := .bool v101) tt_ok rfl rfl ?_
                                          refine wl_pure tt_ok rfl rfl ?_
                                          replace h := bsome h; obtain ⟨v105, h, hg105⟩ := h
                                          refine wl_split (t := 103) rfl (fun hc => ?_) (fun hc => ?_)
                                          · replace h := ct hc h
                                            replace h := bsome h; obtain ⟨v104, x104, h⟩ := h
                                            refine wl_run rfl ?_
                                            refine wl_cq Try.call27 rfl rfl rfl (q_pf (k_hindcastlaw06_fails x104) (fun _ _ => trivial)) rfl ?_
                                            simp only [Option.some.injEq, Prod.mk.injEq] at h
                                            obtain rfl := h
                                            have h := hg105; clear hg105
                                            refine wl_pure (v := .bool v104) tt_ok rfl rfl ?_
                                            refine wl_pure tt_ok rfl rfl ?_
                                            replace h := bsome h; obtain ⟨v110, h, hg110⟩ := h
                                            refine wl_split (t := 106) rfl (fun hc => ?_) (fun hc => ?_)
                                            · replace h := ct hc h
                                              refine wl_run rfl ?_
                                              refine wl_chg (chg_bs tt_ok rfl rfl rfl rfl rfl) rfl ?_
                                              rintro _ _ ⟨b107, rfl, rfl⟩
                                              replace h := bsome h; obtain ⟨v108, x108, h⟩ := h
                                              refine wl_run rfl ?_
                                              refine wl_cq Try.call25 rfl rfl rfl (q_pf (k_input_Predict rfl (Nat.le_refl _) x108) (Rds.call (Rds.of_blk (t := 35) (fz := (0, 0))) pNil ⟨_, Sel.hc⟩)) rfl ?_
                                              refine wl_run rfl ?_
                                              refine wl_pure (v := .bool (v108 == (2 : Int))) tt_ok rfl rfl ?_
                                              simp only [Option.some.injEq, Prod.mk.injEq] at h
                                              obtain rfl := h
                                              have h := hg110; clear hg110
                                              refine wl_pure (v := .bool (v108 == (2 : Int))) tt_ok rfl rfl ?_
                                              refine wl_pure tt_ok rfl rfl ?_
                                              replace h := bsome h; obtain ⟨v114, h, hg114⟩ := h
                                              refine wl_split (t := 111) rfl (fun hc => ?_) (fun hc => ?_)
                                              · replace h := ct hc h
                                                replace h := bsome h; obtain ⟨v112, x112, h⟩ := h
                                                refine wl_run rfl ?_
                                                refine wl_cq Try.call25 rfl rfl rfl (q_pf (k_input_Predict rfl (Nat.le_refl _) x112) (fun _ _ => Rds.nil)) rfl ?_
                                                refine wl_run rfl ?_
                                                refine wl_pure (v := .bool (v112 == (0 : Int))) tt_ok rfl rfl ?_
                                                simp only [Option.some.injEq, Prod.mk.injEq] at h
                                                obtain rfl := h
                                                have h := hg114; clear hg114
                                                refine wl_pure (v := .bool (v112 == (0 : Int))) tt_ok rfl rfl ?_
                                                refine wl_pure tt_ok rfl rfl ?_
                                                replace h := bsome h; obtain ⟨v117, h, hg117⟩ := h
                                                refine wl_split (t := 115) rfl (fun hc => ?_) (fun hc => ?_)
                                                · replace h := ct hc h
                                                  replace h := bsome h; obtain ⟨v116, x116, h⟩ := h
                                                  refine wl_run rfl ?_
                                                  refine wl_cq Try.call10 rfl rfl rfl (q_pf (k_hindcastlaw06_works x116) (fun _ _ => trivial)) rfl ?_
                                                  simp only [Option.some.injEq, Prod.mk.injEq] at h
                                                  obtain rfl := h
                                                  have h := hg117; clear hg117
                                                  refine wl_pure (v := .bool v116) tt_ok rfl rfl ?_
                                                  refine wl_pure tt_ok rfl rfl ?_
                                                  refine wl_nil ?_
                                                  refine wx_then ?_
                                                  refine wc_ret ?_
                                                  simp only [Option.some.injEq] at h
                                                  obtain rfl := h
                                                  exact wx_pf tt_ok (.inl rfl) Try.results9 (Res.tmp rfl Res.nil) rfl
                                                · replace h := cf hc h
                                                  refine wl_skip rfl rfl ?_
                                                  simp only [Option.some.injEq, Prod.mk.injEq] at h
                                                  obtain rfl := h
                                                  have h := hg117; clear hg117
                                                  refine wl_pure (v := .bool false) tt_ok rfl rfl ?_
                                                  refine wl_pure tt_ok rfl rfl ?_
                                                  refine wl_nil ?_
                                                  refine wx_then ?_
                                                  refine wc_ret ?_
                                                  simp only [Option.some.injEq] at h
                                                  obtain rfl := h
                                                  exact wx_pf tt_ok (.inl rfl) Try.results9 (Res.tmp rfl Res.nil) rfl
                                              · replace h := cf hc h
                                                refine wl_skip rfl rfl ?_
                                                refine wl_skip rfl rfl ?_
                                                simp only [Option.some.injEq, Prod.mk.injEq] at h
                                                obtain rfl := h
                                                have h := hg114; clear hg114
                                                refine wl_pure (v := .bool false) tt_ok rfl rfl ?_
                                                refine wl_pure tt_ok rfl rfl ?_
                                                replace h := bsome h; obtain ⟨v117, h, hg117⟩ := h
                                                replace h := cf rfl h
                                                refine wl_skip rfl rfl ?_
                                                simp only [Option.some.injEq, Prod.mk.injEq] at h
                                                obtain rfl := h
                                                have h := hg117; clear hg117
                                                refine wl_pure (v := .bool false) tt_ok rfl rfl ?_
                                                refine wl_pure tt_ok rfl rfl ?_
                                                refine wl_nil ?_
                                                refine wx_then ?_
                                                refine wc_ret ?_
                                                simp only [Option.some.injEq] at h
                                                obtain rfl := h
                                                exact wx_pf tt_ok (.inl rfl) Try.results9 (Res.tmp rfl Res.nil) rfl
                                            · replace h := cf hc h
                                              refine wl_skip rfl rfl ?_
                                              refine wl_skip rfl rfl ?_
                                              refine wl_skip rfl rfl ?_
                                              simp only [Option.some.injEq, Prod.mk.injEq] at h
                                              obtain rfl := h
                                              have h := hg110; clear hg110
                                              refine wl_pure (v := .bool false) tt_ok rfl rfl ?_
                                              refine wl_pure tt_ok rfl rfl ?_
                                              replace h := bsome h; obtain ⟨v114, h, hg114⟩ := h
                                              replace h := cf rfl h
                                              refine wl_skip rfl rfl ?_
                                              refine wl_skip rfl rfl ?_
                                              simp only [Option.some.injEq, Prod.mk.injEq] at h
                                              obtain rfl := h
                                              have h := hg114; clear hg114
                                              refine wl_pure (v := .bool false) tt_ok rfl rfl ?_
                                              refine wl_pure tt_ok rfl rfl ?_
                                              replace h := bsome h; obtain ⟨v117, h, hg117⟩ := h
                                              replace h := cf rfl h
                                              refine wl_skip rfl rfl ?_
                                              simp only [Option.some.injEq, Prod.mk.injEq] at h
                                              obtain rfl := h
                                              have h := hg117; clear hg117
                                              refine wl_pure (v := .bool false) tt_ok rfl rfl ?_
                                              refine wl_pure tt_ok rfl rfl ?_
                                              refine wl_nil ?_
                                              refine wx_then ?_
                                              refine wc_ret ?_
                                              simp only [Option.some.injEq] at h
                                              obtain rfl := h
                                              exact wx_pf tt_ok (.inl rfl) Try.results9 (Res.tmp rfl Res.nil) rfl
                                          · replace h := cf hc h
                                            refine wl_skip rfl rfl ?_
                                            simp only [Option.some.injEq, Prod.mk.injEq] at h
                                            obtain rfl := h
                                            have h := hg105; clear hg105
                                            refine wl_pure (v := .bool false) tt_ok rfl rfl ?_
                                            refine wl_pure tt_ok rfl rfl ?_
                                            replace h := bsome h; obtain ⟨v110, h, hg110⟩ := h
                                            replace h := cf rfl h
                                            refine wl_skip rfl rfl ?_
                                            refine wl_skip rfl rfl ?_
                                            refine wl_skip rfl rfl ?_
                                            simp only [Option.some.injEq, Prod.mk.injEq] at h
                                            obtain rfl := h
                                            have h := hg110; clear hg110
                                            refine wl_pure (v := .bool false) tt_ok rfl rfl ?_
                                            refine wl_pure tt_ok rfl rfl ?_
                                            replace h := bsome h; obtain ⟨v114, h, hg114⟩ := h
                                            replace h := cf rfl h
                                            refine wl_skip rfl rfl ?_
                                            refine wl_skip rfl rfl ?_
                                            simp only [Option.some.injEq, Prod.mk.injEq] at h
                                            obtain rfl := h
                                            have h := hg114; clear hg114
                                            refine wl_pure (v := .bool false) tt_ok rfl rfl ?_
                                            refine wl_pure tt_ok rfl rfl ?_
                                            replace h := bsome h; obtain ⟨v117, h, hg117⟩ := h
                                            replace h := cf rfl h
                                            refine wl_skip rfl rfl ?_
                                            simp only [Option.some.injEq, Prod.mk.injEq] at h
                                            obtain rfl := h
                                            have h := hg117; clear hg117
                                            refine wl_pure (v := .bool false) tt_ok rfl rfl ?_
                                            refine wl_pure tt_ok rfl rfl ?_
                                            refine wl_nil ?_
                                            refine wx_then ?_
                                            refine wc_ret ?_
                                            simp only [Option.some.injEq] at h
                                            obtain rfl := h
                                            exact wx_pf tt_ok (.inl rfl) Try.results9 (Res.tmp rfl Res.nil) rfl
                                        · replace h := cf hc h
                                          refine wl_skip rfl rfl ?_
                                          simp only [Option.some.injEq, Prod.mk.injEq] at h
                                          obtain rfl := h
                                          have h := hg102; clear hg102
                                          refine wl_pure (v := .bool false) tt_ok rfl rfl ?_
                                          refine wl_pure tt_ok rfl rfl ?_
                                          replace h := bsome h; obtain ⟨v105, h, hg105⟩ := h
                                          replace h := cf rfl h
                                          refine wl_skip rfl rfl ?_
                                          simp only [Option.some.injEq, Prod.mk.injEq] at h
                                          obtain rfl := h
                                          have h := hg105; clear hg105
                                          refine wl_pure (v := .bool false) tt_ok rfl rfl ?_
                                          refine wl_pure tt_ok rfl rfl ?_
                                          replace h := bsome h; obtain ⟨v110, h, hg110⟩ := h
                                          replace h := cf rfl h
                                          refine wl_skip rfl rfl ?_
                                          refine wl_skip rfl rfl ?_
                                          refine wl_skip rfl rfl ?_
                                          simp only [Option.some.injEq, Prod.mk.injEq] at h
                                          obtain rfl := h
                                          have h := hg110; clear hg110
                                          refine wl_pure (v := .bool false) tt_ok rfl rfl ?_
                                          refine wl_pure tt_ok rfl rfl ?_
                                          replace h := bsome h; obtain ⟨v114, h, hg114⟩ := h
                                          replace h := cf rfl h
                                          refine wl_skip rfl rfl ?_
                                          refine wl_skip rfl rfl ?_
                                          simp only [Option.some.injEq, Prod.mk.injEq] at h
                                          obtain rfl := h
                                          have h := hg114; clear hg114
                                          refine wl_pure (v := .bool false) tt_ok rfl rfl ?_
                                          refine wl_pure tt_ok rfl rfl ?_
                                          replace h := bsome h; obtain ⟨v117, h, hg117⟩ := h
                                          replace h := cf rfl h
                                          refine wl_skip rfl rfl ?_
                                          simp only [Option.some.injEq, Prod.mk.injEq] at h
                                          obtain rfl := h
                                          have h := hg117; clear hg117
                                          refine wl_pure (v := .bool false) tt_ok rfl rfl ?_
                                          refine wl_pure tt_ok rfl rfl ?_
                                          refine wl_nil ?_
                                          refine wx_then ?_
                                          refine wc_ret ?_
                                          simp only [Option.some.injEq] at h
                                          obtain rfl := h
                                          exact wx_pf tt_ok (.inl rfl) Try.results9 (Res.tmp rfl Res.nil) rfl
                                      · replace h := cf hc h
                                        refine wl_skip rfl rfl ?_
                                        simp only [Option.some.injEq, Prod.mk.injEq] at h
                                        obtain rfl := h
                                        have h := hg99; clear hg99
                                        refine wl_pure (v := .bool false) tt_ok rfl rfl ?_
                                        refine wl_pure tt_ok rfl rfl ?_
                                        replace h := bsome h; obtain ⟨v102, h, hg102⟩ := h
                                        replace h := cf rfl h
                                        refine wl_skip rfl rfl ?_
                                        simp only [Option.some.injEq, Prod.mk.injEq] at h
                                        obtain rfl := h
                                        have h := hg102; clear hg102
                                        refine wl_pure (v := .bool false) tt_ok rfl rfl ?_
                                        refine wl_pure tt_ok rfl rfl ?_
                                        replace h := bsome h; obtain ⟨v105, h, hg105⟩ := h
                                        replace h := cf rfl h
                                        refine wl_skip rfl rfl ?_
                                        simp only [Option.some.injEq, Prod.mk.injEq] at h
                                        obtain rfl := h
                                        have h := hg105; clear hg105
                                        refine wl_pure (v := .bool false) tt_ok rfl rfl ?_
                                        refine wl_pure tt_ok rfl rfl ?_
                                        replace h := bsome h; obtain ⟨v110, h, hg110⟩ := h
                                        replace h := cf rfl h
                                        refine wl_skip rfl rfl ?_
                                        refine wl_skip rfl rfl ?_
                                        refine wl_skip rfl rfl ?_
                                        simp only [Option.some.injEq, Prod.mk.injEq] at h
                                        obtain rfl := h
                                        have h := hg110; clear hg110
                                        refine wl_pure (v := .bool false) tt_ok rfl rfl ?_
                                        refine wl_pure tt_ok rfl rfl ?_
                                        replace h := bsome h; obtain ⟨v114, h, hg114⟩ := h
                                        replace h := cf rfl h
                                        refine wl_skip rfl rfl ?_
                                        refine wl_skip rfl rfl ?_
                                        simp only [Option.some.injEq, Prod.mk.injEq] at h
                                        obtain rfl := h
                                        have h := hg114; clear hg114
                                        refine wl_pure (v := .bool false) tt_ok rfl rfl ?_
                                        refine wl_pure tt_ok rfl rfl ?_
                                        replace h := bsome h; obtain ⟨v117, h, hg117⟩ := h
                                        replace h := cf rfl h
                                        refine wl_skip rfl rfl ?_
                                        simp only [Option.some.injEq, Prod.mk.injEq] at h
                                        obtain rfl := h
                                        have h := hg117; clear hg117
                                        refine wl_pure (v := .bool false) tt_ok rfl rfl ?_
                                        refine wl_pure tt_ok rfl rfl ?_
                                        refine wl_nil ?_
                                        refine wx_then ?_
                                        refine wc_ret ?_
                                        simp only [Option.some.injEq] at h
                                        obtain rfl := h
                                        exact wx_pf tt_ok (.inl rfl) Try.results9 (Res.tmp rfl Res.nil) rfl
                                    · replace h := cf hc h
                                      refine wl_skip rfl rfl ?_
                                      simp only [Option.some.injEq, Prod.mk.injEq] at h
                                      obtain rfl := h
                                      have h := hg96; clear hg96
                                      refine wl_pure (v := .bool false) tt_ok rfl rfl ?_
                                      refine wl_pure tt_ok rfl rfl ?_
                                      replace h := bsome h; obtain ⟨v99, h, hg99⟩ := h
                                      replace h := cf rfl h
                                      refine wl_skip rfl rfl ?_
                                      simp only [Option.some.injEq, Prod.mk.injEq] at h
                                      obtain rfl := h
                                      have h := hg99; clear hg99
                                      refine wl_pure (v := .bool false) tt_ok rfl rfl ?_
                                      refine wl_pure tt_ok rfl rfl ?_
                                      replace h := bsome h; obtain ⟨v102, h, hg102⟩ := h
                                      replace h := cf rfl h
                                      refine wl_skip rfl rfl ?_
                                      simp only [Option.some.injEq, Prod.mk.injEq] at h
                                      obtain rfl := h
                                      have h := hg102; clear hg102
                                      refine wl_pure (v := .bool false) tt_ok rfl rfl ?_
                                      refine wl_pure tt_ok rfl rfl ?_
                                      replace h := bsome h; obtain ⟨v105, h, hg105⟩ := h
                                      replace h := cf rfl h
                                      refine wl_skip rfl rfl ?_
                                      simp only [Option.some.injEq, Prod.mk.injEq] at h
                                      obtain rfl := h
                                      have h := hg105; clear hg105
                                      refine wl_pure (v := .bool false) tt_ok rfl rfl ?_
                                      refine wl_pure tt_ok rfl rfl ?_
                                      replace h := bsome h; obtain ⟨v110, h, hg110⟩ := h
                                      replace h := cf rfl h
                                      refine wl_skip rfl rfl ?_
                                      refine wl_skip rfl rfl ?_
                                      refine wl_skip rfl rfl ?_
                                      simp only [Option.some.injEq, Prod.mk.injEq] at h
                                      obtain rfl := h
                                      have h := hg110; clear hg110
                                      refine wl_pure (v := .bool false) tt_ok rfl rfl ?_
                                      refine wl_pure tt_ok rfl rfl ?_
                                      replace h := bsome h; obtain ⟨v114, h, hg114⟩ := h
                                      replace h := cf rfl h
                                      refine wl_skip rfl rfl ?_
                                      refine wl_skip rfl rfl ?_
                                      simp only [Option.some.injEq, Prod.mk.injEq] at h
                                      obtain rfl := h
                                      have h := hg114; clear hg114
                                      refine wl_pure (v := .bool false) tt_ok rfl rfl ?_
                                      refine wl_pure tt_ok rfl rfl ?_
                                      replace h := bsome h; obtain ⟨v117, h, hg117⟩ := h
                                      replace h := cf rfl h
                                      refine wl_skip rfl rfl ?_
                                      simp only [Option.some.injEq, Prod.mk.injEq] at h
                                      obtain rfl := h
                                      have h := hg117; clear hg117
                                      refine wl_pure (v := .bool false) tt_ok rfl rfl ?_
                                      refine wl_pure tt_ok rfl rfl ?_
                                      refine wl_nil ?_
                                      refine wx_then ?_
                                      refine wc_ret ?_
                                      simp only [Option.some.injEq] at h
                                      obtain rfl := h
                                      exact wx_pf tt_ok (.inl rfl) Try.results9 (Res.tmp rfl Res.nil) rfl
                                  · replace h := cf hc h
                                    refine wl_skip rfl rfl ?_
                                    simp only [Option.some.injEq, Prod.mk.injEq] at h
                                    obtain rfl := h
                                    have h := hg93; clear hg93
                                    refine wl_pure (v := .bool false) tt_ok rfl rfl ?_
                                    refine wl_pure tt_ok rfl rfl ?_
                                    replace h := bsome h; obtain ⟨v96, h, hg96⟩ := h
                                    replace h := cf rfl h
                                    refine wl_skip rfl rfl ?_
                                    simp only [Option.some.injEq, Prod.mk.injEq] at h
                                    obtain rfl := h
                                    have h := hg96; clear hg96
                                    refine wl_pure (v := .bool false) tt_ok rfl rfl ?_
                                    refine wl_pure tt_ok rfl rfl ?_
                                    replace h := bsome h; obtain ⟨v99, h, hg99⟩ := h
                                    replace h := cf rfl h
                                    refine wl_skip rfl rfl ?_
                                    simp only [Option.some.injEq, Prod.mk.injEq] at h
                                    obtain rfl := h
                                    have h := hg99; clear hg99
                                    refine wl_pure (v := .bool false) tt_ok rfl rfl ?_
                                    refine wl_pure tt_ok rfl rfl ?_
                                    replace h := bsome h; obtain ⟨v102, h, hg102⟩ := h
                                    replace h := cf rfl h
                                    refine wl_skip rfl rfl ?_
                                    simp only [Option.some.injEq, Prod.mk.injEq] at h
                                    obtain rfl := h
                                    have h := hg102; clear hg102
                                    refine wl_pure (v := .bool false) tt_ok rfl rfl ?_
                                    refine wl_pure tt_ok rfl rfl ?_
                                    replace h := bsome h; obtain ⟨v105, h, hg105⟩ := h
                                    replace h := cf rfl h
                                    refine wl_skip rfl rfl ?_
                                    simp only [Option.some.injEq, Prod.mk.injEq] at h
                                    obtain rfl := h
                                    have h := hg105; clear hg105
                                    refine wl_pure (v := .bool false) tt_ok rfl rfl ?_
                                    refine wl_pure tt_ok rfl rfl ?_
                                    replace h := bsome h; obtain ⟨v110, h, hg110⟩ := h
                                    replace h := cf rfl h
                                    refine wl_skip rfl rfl ?_
                                    refine wl_skip rfl rfl ?_
                                    refine wl_skip rfl rfl ?_
                                    simp only [Option.some.injEq, Prod.mk.injEq] at h
                                    obtain rfl := h
                                    have h := hg110; clear hg110
                                    refine wl_pure (v := .bool false) tt_ok rfl rfl ?_
                                    refine wl_pure tt_ok rfl rfl ?_
                                    replace h := bsome h; obtain ⟨v114, h, hg114⟩ := h
                                    replace h := cf rfl h
                                    refine wl_skip rfl rfl ?_
                                    refine wl_skip rfl rfl ?_
                                    simp only [Option.some.injEq, Prod.mk.injEq] at h
                                    obtain rfl := h
                                    have h := hg114; clear hg114
                                    refine wl_pure (v := .bool false) tt_ok rfl rfl ?_
                                    refine wl_pure tt_ok rfl rfl ?_
                                    replace h := bsome h; obtain ⟨v117, h, hg117⟩ := h
                                    replace h := cf rfl h
                                    refine wl_skip rfl rfl ?_
                                    simp only [Option.some.injEq, Prod.mk.injEq] at h
                                    obtain rfl := h
                                    have h := hg117; clear hg117
                                    refine wl_pure (v := .bool false) tt_ok rfl rfl ?_
                                    refine wl_pure tt_ok rfl rfl ?_
                                    refine wl_nil ?_
                                    refine wx_then ?_
                                    refine wc_ret ?_
                                    simp only [Option.some.injEq] at h
                                    obtain rfl := h
                                    exact wx_pf tt_ok (.inl rfl) Try.results9 (Res.tmp rfl Res.nil) rfl

end Go.Proofs.Ytolmilcdhphnhaa
