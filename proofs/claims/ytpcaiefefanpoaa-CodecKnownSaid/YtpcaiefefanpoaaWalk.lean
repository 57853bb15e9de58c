/-
  Each function computes what its model says. Printed by a program of this claim's own.
-/
import Derived.Test.YtpcaiefefanpoaaTab
import Derived.Test.YtpcaiefefanpoaaMod
import Derived.Test.YtpcaiefefanpoaaWalk3
namespace Go.Proofs.Ytpcaiefefanpoaa
open Go.Proofs.Ytpcaiefefanpoaa.Eng
set_option linter.unusedVariables false
set_option linter.unusedSimpArgs false
set_option maxHeartbeats 4000000
set_option maxRecDepth 20000

theorem k_hindcastlaw02_CodecOne {F : Nat} {p0 : (List UInt8)} {p1 : (List Int)} {p1a0 : Option Addr} {p1c0 : Nat} {r0 : Bool} (p1H0 : p1.length ≤ p1c0) (h : m_hindcastlaw02_CodecOne F p0 p1 = some r0) :
    Pf Try.prog 7 [.string ⟨p0.toArray⟩, .slice p1a0 p1.length p1c0] (fun w => Rds w [] [] p1a0 (flat (e1 .u8) p1)) (.bool r0) := by
  unfold m_hindcastlaw02_CodecOne at h
  refine pf_of_wc Try.func7 rfl Try.ntmps7 rfl rfl (fun w0 hR => ?_)
  have p1S0 := hR
  refine wc_seq ?_
  refine wc_region ?_
  refine wl_pure tt_ok rfl rfl ?_
  refine wl_nil ?_
  refine wx_then ?_
  refine wc_seq ?_
  refine wc_seq ?_
  refine wc_region ?_
  refine wl_pure tt_ok rfl rfl ?_
  refine wl_pure (v := .int .i64 (p0.length : Int)) tt_ok rfl rfl ?_
  refine wl_pure (v := .bool (decide ((1000 : Int) < (p0.length : Int)))) tt_ok rfl rfl ?_
  refine wl_pure tt_ok rfl rfl ?_
  replace h := bsome h; obtain ⟨v16, h, hg16⟩ := h
  refine wl_split (t := 12) rfl (fun hc => ?_) (fun hc => ?_)
  · replace h := ct hc h
    refine wl_skip rfl rfl ?_
    refine wl_skip rfl rfl ?_
    refine wl_skip rfl rfl ?_
    simp only [Option.some.injEq, Prod.mk.injEq] at h
    obtain rfl := h
    have h := hg16; clear hg16
    refine wl_pure (v := .bool true) tt_ok rfl rfl ?_
    refine wl_nil ?_
    refine wx_then ?_
    replace h := ct rfl h
    refine wc_cond_true rfl ?_
    refine wc_seq ?_
    refine wc_region ?_
    replace h := bsome h; obtain ⟨v17, x17, h⟩ := h
    refine wl_cq Try.call9 rfl rfl rfl (q_pf (k_hindcastlaw02_works x17) (fun _ _ => trivial)) rfl ?_
    refine wl_pure tt_ok rfl rfl ?_
    refine wl_nil ?_
    refine wx_then ?_
    refine wc_ret ?_
    refine wx_then_ret ?_
    simp only [Option.some.injEq] at h
    obtain rfl := h
    exact wx_pf tt_ok (.inl rfl) Try.results7 (Res.tmp rfl Res.nil) rfl
  · replace h := cf hc h
    refine wl_run rfl ?_
    refine wl_pure tt_ok rfl rfl ?_
    refine wl_run rfl ?_
    refine wl_pure (v := .int .i64 (p1.length : Int)) tt_ok rfl rfl ?_
    refine wl_run rfl ?_
    refine wl_pure (v := .bool (decide ((60 : Int) < (p1.length : Int)))) tt_ok rfl rfl ?_
    simp only [Option.some.injEq, Prod.mk.injEq] at h
    obtain rfl := h
    have h := hg16; clear hg16
    refine wl_pure (v := .bool (decide ((60 : Int) < (p1.length : Int)))) tt_ok rfl rfl ?_
    refine wl_nil ?_
    refine wx_then ?_
    refine wc_cond rfl (fun hc => ?_) (fun hc => ?_)
    · replace h := ct hc h
      refine wc_seq ?_
      refine wc_region ?_
      replace h := bsome h; obtain ⟨v17, x17, h⟩ := h
      refine wl_cq Try.call9 rfl rfl rfl (q_pf (k_hindcastlaw02_works x17) (fun _ _ => trivial)) rfl ?_
      refine wl_pure tt_ok rfl rfl ?_
      refine wl_nil ?_
      refine wx_then ?_
      refine wc_ret ?_
      refine wx_then_ret ?_
      simp only [Option.some.injEq] at h
      obtain rfl := h
      exact wx_pf tt_ok (.inl rfl) Try.results7 (Res.tmp rfl Res.nil) rfl
    · replace h := cf hc h
      refine wc_skip ?_
      refine wx_then ?_
      refine wc_seq ?_
      refine wc_region ?_
      refine wl_pure tt_ok rfl rfl ?_
      replace h := bsome h; obtain ⟨v19, x19, h⟩ := h
      refine wl_cs Try.call13 rfl rfl rfl (s_sp (k_codec_New x19) pNil (fun _ _ => trivial)) rfl ?_
      rintro _ _ ⟨_, ⟨b19_0, rfl, rfl⟩, rfl⟩
      refine wl_pure tt_ok rfl rfl ?_
      refine wl_nil ?_
      refine wx_then ?_
      refine wc_seq ?_
      refine wc_seq ?_
      refine wc_region ?_
      refine wl_pure tt_ok rfl rfl ?_
      refine wl_pure (v := .bool false) tt_ok rfl rfl ?_
      refine wl_nil ?_
      refine wx_then ?_
      refine wc_cond_false rfl ?_
      refine wc_skip ?_
      refine wx_then ?_
      refine wc_seq ?_
      refine wc_region ?_
      refine wl_pure (v := .agg #[.slice none 0 0]) tt_ok rfl rfl ?_
      refine wl_box rfl rfl rfl (fun b23 => ?_)
      refine wl_pure tt_ok rfl rfl ?_
      refine wl_nil ?_
      refine wx_then ?_
      refine wc_seq ?_
      refine wc_seq ?_
      refine wc_region ?_
      refine wl_pure tt_ok rfl rfl ?_
      refine wl_nil ?_
      refine wx_then ?_
      refine wc_block ?_
      replace h := bsome h; obtain ⟨o27, h, hl27⟩ := h
      refine wc_loop (fun m E L => ∃ (j27_7 : Int) (j27_n19_0 : T_codec_Reader) (j27_n23 : T_codec_Writer) (j27_n23a0 : Option Addr) (j27_n23c0 : Nat) (j27_n23B0 : List Blk), m_hindcastlaw02_CodecOne_L26 F p0 p1 m j27_7 j27_n19_0 j27_n23 = some o27 ∧ Vec 5 1 (.slice j27_n23a0 j27_n23.b.length j27_n23c0) j27_n23.b.length (flat (e1 .u8) j27_n23.b) j27_n23B0 ∧ E = [(0, .string ⟨p0.toArray⟩), (1, .slice p1a0 p1.length p1c0), (4, .bool false), (5, .pointer (some ⟨b19_0, 0, none⟩)), (6, .pointer (some ⟨b23, 0, none⟩)), (7, .int .i64 j27_7)] ∧ L = (⟨b19_0, [.string ⟨j27_n19_0.left.s.toArray⟩, .int .i64 j27_n19_0.left.e], 67, (0, 0)⟩ :: (⟨b23, [.slice j27_n23a0 j27_n23.b.length j27_n23c0], 28, (0, 0)⟩ :: (j27_n23B0 ++ [])))) F ⟨(0 : Int), v19, (T_codec_Writer.mk ([] : List Int)), none, 0, [], h, Vec.none, rfl, rfl⟩ (agree_cons rfl (agree_cons rfl (agree_cons rfl (agree_cons rfl (agree_cons rfl (agree_cons rfl agree_nil)))))) (pSub (pCons (Sel.sc Sel.hc) (pCons Sel.hc (pNo pNil)))) ?_
      clear h
      rintro m _ _ ⟨j27_7, j27_n19_0, j27_n23, j27_n23a0, j27_n23c0, j27_n23B0, h, j27_n23V0, rfl, rfl⟩
      rcases m with _ | m
      · rw [m_hindcastlaw02_CodecOne_L26.eq_1] at h; cases h
      rw [m_hindcastlaw02_CodecOne_L26.eq_2] at h
      refine wc_seq ?_
      refine wc_seq ?_
      refine wc_region ?_
      refine wl_pure tt_ok rfl rfl ?_
      refine wl_pure tt_ok rfl rfl ?_
      refine wl_pure (v := .int .i64 (p1.length : Int)) tt_ok rfl rfl ?_
      refine wl_pure (v := .bool (decide (j27_7 < (p1.length : Int)))) tt_ok rfl rfl ?_
      refine wl_nil ?_
      refine wx_then ?_
      refine wc_cond rfl (fun hc => ?_) (fun hc => ?_)
      · replace h := ct hc h
        refine wc_skip ?_
        refine wx_then ?_
        refine wc_seq ?_
        refine wc_block ?_
        refine wc_seq ?_
        refine wc_region ?_
        refine wl_pure tt_ok rfl rfl ?_
        replace h := bsome h; obtain ⟨v31, x31, h⟩ := h
        refine wl_cq Try.call12 rfl rfl rfl (q_rd (k_codec_Writer_Bytes j27_n23V0 x31) (pCons (Sel.sc Sel.hc) (pApp (Sel.sc Sel.ha) pNil)) (fun _ _ => trivial)) rfl ?_
        refine wl_pure tt_ok rfl rfl ?_
        refine wl_nil ?_
        refine wx_then ?_
        refine wc_seq ?_
        refine wc_seq ?_
        refine wc_region ?_
        refine wl_pure tt_ok rfl rfl ?_
        refine wl_pure tt_ok rfl rfl ?_
        replace h := bsome h; obtain ⟨v34, x34, h⟩ := h
        refine wl_val (v := .pointer (some ((adOf p1a0).add (j27_7.toNat * 1 + 0)))) (val_ix (enc := (e1 .u8)) tt_ok rfl rfl rfl rfl p1S0 (e1_len _) rfl x34) rfl ?_
        refine wl_val (v := .int .u8 v34) (val_le tt_ok rfl p1S0 rsub_nil (e1_len _) x34 rfl) rfl ?_
        refine wl_pure (v := .int .u8 (Int.tmod v34 7)) tt_ok rfl rfl ?_
        refine wl_nil ?_
        refine wx_then ?_
        refine wc_block ?_
        refine wc_seq ?_
        refine wc_region ?_
        refine wl_pure (v := .bool ((Int.tmod v34 7) == (0 : Int))) tt_ok rfl rfl ?_
        refine wl_pure tt_ok rfl rfl ?_
        refine wl_nil ?_
        refine wx_then ?_
        refine wc_cond rfl (fun hc => ?_) (fun hc => ?_)
        · replace h := ct hc h
          refine wc_region ?_
          refine wl_pure tt_ok rfl rfl ?_
          refine wl_pure tt_ok rfl rfl ?_
          replace h := bsome h; obtain ⟨⟨o45_0, v45⟩, x45, h⟩ := h; try dsimp only at h
          refine wl_cs Try.call14 rfl rfl rfl (s_sp (k_codec_Reader_U8 x45) (pCons Sel.hc pNil) (fun _ _ => trivial)) rfl ?_
          rintro _ _ ⟨_, ⟨rfl, rfl⟩, rfl⟩
          replace h := bsome h; obtain ⟨o46_0, x46, h⟩ := h
          refine wl_cs Try.call31 rfl rfl rfl (s_sp (k_codec_Writer_U8 j27_n23V0 x46) (pCons (Sel.sc Sel.hc) (pApp (Sel.sc Sel.ha) pNil)) (fun _ _ => trivial)) rfl ?_
          rintro _ _ ⟨_, ⟨o46_0a0, o46_0c0, o46_0B0, o46_0V0, rfl, rfl⟩, rfl⟩
          refine wl_nil ?_
          refine wx_block ?_
          refine wx_then ?_
          refine wc_seq ?_
          refine wc_region ?_
          refine wl_pure tt_ok rfl rfl ?_
          replace h := bsome h; obtain ⟨v78, x78, h⟩ := h
          refine wl_cq Try.call24 rfl rfl rfl (q_rd (k_codec_Reader_Err x78) (pCons (Sel.sc (Sel.sa Sel.hc)) pNil) (fun _ _ => trivial)) rfl ?_
          refine wl_pure (v := .bool (v78 != (0 : Int))) tt_ok rfl rfl ?_
          refine wl_nil ?_
          refine wx_then ?_
          refine wc_cond rfl (fun hc => ?_) (fun hc => ?_)
          · replace h := ct hc h
            refine wc_seq ?_
            refine wc_region ?_
            refine wl_pure tt_ok rfl rfl ?_
            refine wl_pure (v := .int .i64 (v31.length : Int)) tt_ok rfl rfl ?_
            refine wl_pure tt_ok rfl rfl ?_
            refine wl_pure (v := .int .i64 (p0.length : Int)) tt_ok rfl rfl ?_
            refine wl_pure (v := .bool (decide ((v31.length : Int) ≤ (p0.length : Int)))) tt_ok rfl rfl ?_
            refine wl_pure tt_ok rfl rfl ?_
            replace h := bsome h; obtain ⟨v92, h, hg92⟩ := h
            refine wl_split (t := 85) rfl (fun hc => ?_) (fun hc => ?_)
            · replace h := ct hc h
              refine wl_run rfl ?_
              refine wl_pure tt_ok rfl rfl ?_
              refine wl_run rfl ?_
              refine wl_pure tt_ok rfl rfl ?_
              refine wl_run rfl ?_
              refine wl_pure tt_ok rfl rfl ?_
              refine wl_run rfl ?_
              refine wl_pure (v := .int .i64 (v31.length : Int)) tt_ok rfl rfl ?_
              replace h := bsome h; obtain ⟨v90, x90, h⟩ := h
              refine wl_run rfl ?_
              refine wl_val (v := .string ⟨v90.toArray⟩) (val_ss tt_ok rfl rfl (.inl ⟨rfl, rfl⟩) (.inr ⟨_, _, rfl, rfl⟩) x90) rfl ?_
              refine wl_run rfl ?_
              refine wl_val (v := .bool (v31 == v90)) (val_seq tt_ok rfl rfl) rfl ?_
              simp only [Option.some.injEq, Prod.mk.injEq] at h
              obtain rfl := h
              have h := hg92; clear hg92
              refine wl_pure (v := .bool (v31 == v90)) tt_ok rfl rfl ?_
              refine wl_pure tt_ok rfl rfl ?_
              replace h := bsome h; obtain ⟨v95, h, hg95⟩ := h
              refine wl_split (t := 93) rfl (fun hc => ?_) (fun hc => ?_)
              · replace h := ct hc h
                replace h := bsome h; obtain ⟨v94, x94, h⟩ := h
                refine wl_run rfl ?_
                refine wl_cq Try.call9 rfl rfl rfl (q_pf (k_hindcastlaw02_works x94) (fun _ _ => trivial)) rfl ?_
                simp only [Option.some.injEq, Prod.mk.injEq] at h
                obtain rfl := h
                have h := hg95; clear hg95
                refine wl_pure (v := .bool v94) tt_ok rfl rfl ?_
                refine wl_pure tt_ok rfl rfl ?_
                refine wl_nil ?_
                refine wx_then ?_
                refine wc_ret ?_
                refine wx_block_ret ?_
                refine wx_then_ret ?_
                obtain rfl := Option.some.inj h
                have h := hl27; clear hl27; try dsimp only [orE_l, orE_r] at h
                refine wx_then_ret ?_
                refine wx_block_ret ?_
                refine wx_then_ret ?_
                simp only [Option.some.injEq] at h
                obtain rfl := h
                exact wx_pf tt_ok (.inl rfl) Try.results7 (Res.tmp rfl Res.nil) rfl
              · replace h := cf hc h
                refine wl_skip rfl rfl ?_
                simp only [Option.some.injEq, Prod.mk.injEq] at h
                obtain rfl := h
                have h := hg95; clear hg95
                refine wl_pure (v := .bool false) tt_ok rfl rfl ?_
                refine wl_pure tt_ok rfl rfl ?_
                refine wl_nil ?_
                refine wx_then ?_
                refine wc_ret ?_
                refine wx_block_ret ?_
                refine wx_then_ret ?_
                obtain rfl := Option.some.inj h
                have h := hl27; clear hl27; try dsimp only [orE_l, orE_r] at h
                refine wx_then_ret ?_
                refine wx_block_ret ?_
                refine wx_then_ret ?_
                simp only [Option.some.injEq] at h
                obtain rfl := h
                exact wx_pf tt_ok (.inl rfl) Try.results7 (Res.tmp rfl Res.nil) rfl
            · replace h := cf hc h
              refine wl_skip rfl rfl ?_
              refine wl_skip rfl rfl ?_
              refine wl_skip rfl rfl ?_
              refine wl_skip rfl rfl ?_
              refine wl_skip rfl rfl ?_
              refine wl_skip rfl rfl ?_
              simp only [Option.some.injEq, Prod.mk.injEq] at h
              obtain rfl := h
              have h := hg92; clear hg92
              refine wl_pure (v := .bool false) tt_ok rfl rfl ?_
              refine wl_pure tt_ok rfl rfl ?_
              replace h := bsome h; obtain ⟨v95, h, hg95⟩ := h
              replace h := cf rfl h
              refine wl_skip rfl rfl ?_
              simp only [Option.some.injEq, Prod.mk.injEq] at h
              obtain rfl := h
              have h := hg95; clear hg95
              refine wl_pure (v := .bool false) tt_ok rfl rfl ?_
              refine wl_pure tt_ok rfl rfl ?_
              refine wl_nil ?_
              refine wx_then ?_
              refine wc_ret ?_
              refine wx_block_ret ?_
              refine wx_then_ret ?_
              obtain rfl := Option.some.inj h
              have h := hl27; clear hl27; try dsimp only [orE_l, orE_r] at h
              refine wx_then_ret ?_
              refine wx_block_ret ?_
              refine wx_then_ret ?_
              simp only [Option.some.injEq] at h
              obtain rfl := h
              exact wx_pf tt_ok (.inl rfl) Try.results7 (Res.tmp rfl Res.nil) rfl
          · replace h := cf hc h
            refine wc_skip ?_
            refine wx_block ?_
            refine wx_then ?_
            refine wc_region ?_
            refine wl_pure tt_ok rfl rfl ?_
            refine wl_pure (v := .int .i64 (IntKind.wrap .i64 (j27_7 + (1 : Int)))) tt_ok rfl rfl ?_
            refine wl_pure tt_ok rfl rfl ?_
            refine wl_nil ?_
            exact wx_round m (Nat.lt_succ_self m) ⟨(IntKind.wrap .i64 (j27_7 + (1 : Int))), o45_0, o46_0, o46_0a0, o46_0c0, o46_0B0, h, o46_0V0, rfl, rfl⟩ (agree_cons rfl (agree_cons rfl (agree_cons rfl (agree_cons rfl (agree_cons rfl (agree_cons rfl agree_nil)))))) (pSub (pCons (Sel.sc (Sel.sa Sel.hc)) (pCons Sel.hc (pApp Sel.ha pNil))))
        · replace h := cf hc h
          refine wc_seq ?_
          refine wc_region ?_
          refine wl_pure (v := .bool ((Int.tmod v34 7) == (1 : Int))) tt_ok rfl rfl ?_
          refine wl_pure tt_ok rfl rfl ?_
          refine wl_nil ?_
          refine wx_then ?_
          refine wc_cond rfl (fun hc => ?_) (fun hc => ?_)
          · replace h := ct hc h
            refine wc_region ?_
            refine wl_pure tt_ok rfl rfl ?_
            refine wl_pure tt_ok rfl rfl ?_
            replace h := bsome h; obtain ⟨⟨o51_0, v51⟩, x51, h⟩ := h; try dsimp only at h
            refine wl_cs Try.call16 rfl rfl rfl (s_sp (k_codec_Reader_U16 x51) (pCons Sel.hc pNil) (fun _ _ => trivial)) rfl ?_
            rintro _ _ ⟨_, ⟨rfl, rfl⟩, rfl⟩
            replace h := bsome h; obtain ⟨o52_0, x52, h⟩ := h
            refine wl_cs Try.call33 rfl rfl rfl (s_sp (k_codec_Writer_U16 j27_n23V0 x52) (pCons (Sel.sc Sel.hc) (pApp (Sel.sc Sel.ha) pNil)) (fun _ _ => trivial)) rfl ?_
            rintro _ _ ⟨_, ⟨o52_0a0, o52_0c0, o52_0B0, o52_0V0, rfl, rfl⟩, rfl⟩
            refine wl_nil ?_
            refine wx_block ?_
            refine wx_then ?_
            refine wc_seq ?_
            refine wc_region ?_
            refine wl_pure tt_ok rfl rfl ?_
            replace h := bsome h; obtain ⟨v78, x78, h⟩ := h
            refine wl_cq Try.call24 rfl rfl rfl (q_rd (k_codec_Reader_Err x78) (pCons (Sel.sc (Sel.sa Sel.hc)) pNil) (fun _ _ => trivial)) rfl ?_
            refine wl_pure (v := .bool (v78 != (0 : Int))) tt_ok rfl rfl ?_
            refine wl_nil ?_
            refine wx_then ?_
            refine wc_cond rfl (fun hc => ?_) (fun hc => ?_)
            · replace h := ct hc h
              refine wc_seq ?_
              refine wc_region ?_
              refine wl_pure tt_ok rfl rfl ?_
              refine wl_pure (v := .int .i64 (v31.length : Int)) tt_ok rfl rfl ?_
              refine wl_pure tt_ok rfl rfl ?_
              refine wl_pure (v := .int .i64 (p0.length : Int)) tt_ok rfl rfl ?_
              refine wl_pure (v := .bool (decide ((v31.length : Int) ≤ (p0.length : Int)))) tt_ok rfl rfl ?_
              refine wl_pure tt_ok rfl rfl ?_
              replace h := bsome h; obtain ⟨v92, h, hg92⟩ := h
              refine wl_split (t := 85) rfl (fun hc => ?_) (fun hc => ?_)
              · replace h := ct hc h
                refine wl_run rfl ?_
                refine wl_pure tt_ok rfl rfl ?_
                refine wl_run rfl ?_
                refine wl_pure tt_ok rfl rfl ?_
                refine wl_run rfl ?_
                refine wl_pure tt_ok rfl rfl ?_
                refine wl_run rfl ?_
                refine wl_pure (v := .int .i64 (v31.length : Int)) tt_ok rfl rfl ?_
                replace h := bsome h; obtain ⟨v90, x90, h⟩ := h
                refine wl_run rfl ?_
                refine wl_val (v := .string ⟨v90.toArray⟩) (val_ss tt_ok rfl rfl (.inl ⟨rfl, rfl⟩) (.inr ⟨_, _, rfl, rfl⟩) x90) rfl ?_
                refine wl_run rfl ?_
                refine wl_val (v := .bool (v31 == v90)) (val_seq tt_ok rfl rfl) rfl ?_
                simp only [Option.some.injEq, Prod.mk.injEq] at h
                obtain rfl := h
                have h := hg92; clear hg92
                refine wl_pure (v := .bool (v31 == v90)) tt_ok rfl rfl ?_
                refine wl_pure tt_ok rfl rfl ?_
                replace h := bsome h; obtain ⟨v95, h, hg95⟩ := h
                refine wl_split (t := 93) rfl (fun hc => ?_) (fun hc => ?_)
                · replace h := ct hc h
                  replace h := bsome h; obtain ⟨v94, x94, h⟩ := h
                  refine wl_run rfl ?_
                  refine wl_cq Try.call9 rfl rfl rfl (q_pf (k_hindcastlaw02_works x94) (fun _ _ => trivial)) rfl ?_
                  simp only [Option.some.injEq, Prod.mk.injEq] at h
                  obtain rfl := h
                  have h := hg95; clear hg95
                  refine wl_pure (v := .bool v94) tt_ok rfl rfl ?_
                  refine wl_pure tt_ok rfl rfl ?_
                  refine wl_nil ?_
                  refine wx_then ?_
                  refine wc_ret ?_
                  refine wx_block_ret ?_
                  refine wx_then_ret ?_
                  obtain rfl := Option.some.inj h
                  have h := hl27; clear hl27; try dsimp only [orE_l, orE_r] at h
                  refine wx_then_ret ?_
                  refine wx_block_ret ?_
                  refine wx_then_ret ?_
                  simp only [Option.some.injEq] at h
                  obtain rfl := h
                  exact wx_pf tt_ok (.inl rfl) Try.results7 (Res.tmp rfl Res.nil) rfl
                · replace h := cf hc h
                  refine wl_skip rfl rfl ?_
                  simp only [Option.some.injEq, Prod.mk.injEq] at h
                  obtain rfl := h
                  have h := hg95; clear hg95
                  refine wl_pure (v := .bool false) tt_ok rfl rfl ?_
                  refine wl_pure tt_ok rfl rfl ?_
                  refine wl_nil ?_
                  refine wx_then ?_
                  refine wc_ret ?_
                  refine wx_block_ret ?_
                  refine wx_then_ret ?_
                  obtain rfl := Option.some.inj h
                  have h := hl27; clear hl27; try dsimp only [orE_l, orE_r] at h
                  refine wx_then_ret ?_
                  refine wx_block_ret ?_
                  refine wx_then_ret ?_
                  simp only [Option.some.injEq] at h
                  obtain rfl := h
                  exact wx_pf tt_ok (.inl rfl) Try.results7 (Res.tmp rfl Res.nil) rfl
              · replace h := cf hc h
                refine wl_skip rfl rfl ?_
                refine wl_skip rfl rfl ?_
                refine wl_skip rfl rfl ?_
                refine wl_skip rfl rfl ?_
                refine wl_skip rfl rfl ?_
                refine wl_skip rfl rfl ?_
                simp only [Option.some.injEq, Prod.mk.injEq] at h
                obtain rfl := h
                have h := hg92; clear hg92
                refine wl_pure (v := .bool false) tt_ok rfl rfl ?_
                refine wl_pure tt_ok rfl rfl ?_
                replace h := bsome h; obtain ⟨v95, h, hg95⟩ := h
                replace h := cf rfl h
                refine wl_skip rfl rfl ?_
                simp only [Option.some.injEq, Prod.mk.injEq] at h
                obtain rfl := h
                have h := hg95; clear hg95
                refine wl_pure (v := .bool false) tt_ok rfl rfl ?_
                refine wl_pure tt_ok rfl rfl ?_
                refine wl_nil ?_
                refine wx_then ?_
                refine wc_ret ?_
                refine wx_block_ret ?_
                refine wx_then_ret ?_
                obtain rfl := Option.some.inj h
                have h := hl27; clear hl27; try dsimp only [orE_l, orE_r] at h
                refine wx_then_ret ?_
                refine wx_block_ret ?_
                refine wx_then_ret ?_
                simp only [Option.some.injEq] at h
                obtain rfl := h
                exact wx_pf tt_ok (.inl rfl) Try.results7 (Res.tmp rfl Res.nil) rfl
            · replace h := cf hc h
              refine wc_skip ?_
              refine wx_block ?_
              refine wx_then ?_
              refine wc_region ?_
              refine wl_pure tt_ok rfl rfl ?_
              refine wl_pure (v := .int .i64 (IntKind.wrap .i64 (j27_7 + (1 : Int)))) tt_ok rfl rfl ?_
              refine wl_pure tt_ok rfl rfl ?_
              refine wl_nil ?_
              exact wx_round m (Nat.lt_succ_self m) ⟨(IntKind.wrap .i64 (j27_7 + (1 : Int))), o51_0, o52_0, o52_0a0, o52_0c0, o52_0B0, h, o52_0V0, rfl, rfl⟩ (agree_cons rfl (agree_cons rfl (agree_cons rfl (agree_cons rfl (agree_cons rfl (agree_cons rfl agree_nil)))))) (pSub (pCons (Sel.sc (Sel.sa Sel.hc)) (pCons Sel.hc (pApp Sel.ha pNil))))
          · replace h := cf hc h
            refine wc_seq ?_
            refine wc_region ?_
            refine wl_pure (v := .bool ((Int.tmod v34 7) == (2 : Int))) tt_ok rfl rfl ?_
            refine wl_pure tt_ok rfl rfl ?_
            refine wl_nil ?_
            refine wx_then ?_
            refine wc_cond rfl (fun hc => ?_) (fun hc => ?_)
            · replace h := ct hc h
              refine wc_region ?_
              refine wl_pure tt_ok rfl rfl ?_
              refine wl_pure tt_ok rfl rfl ?_
              replace h := bsome h; obtain ⟨⟨o57_0, v57⟩, x57, h⟩ := h; try dsimp only at h
              refine wl_cs Try.call17 rfl rfl rfl (s_sp (k_codec_Reader_U32 x57) (pCons Sel.hc pNil) (fun _ _ => trivial)) rfl ?_
              rintro _ _ ⟨_, ⟨rfl, rfl⟩, rfl⟩
              replace h := bsome h; obtain ⟨o58_0, x58, h⟩ := h
              refine wl_cs Try.call34 rfl rfl rfl (s_sp (k_codec_Writer_U32 j27_n23V0 x58) (pCons (Sel.sc Sel.hc) (pApp (Sel.sc Sel.ha) pNil)) (fun _ _ => trivial)) rfl ?_
              rintro _ _ ⟨_, ⟨o58_0a0, o58_0c0, o58_0B0, o58_0V0, rfl, rfl⟩, rfl⟩
              refine wl_nil ?_
              refine wx_block ?_
              refine wx_then ?_
              refine wc_seq ?_
              refine wc_region ?_
              refine wl_pure tt_ok rfl rfl ?_
              replace h := bsome h; obtain ⟨v78, x78, h⟩ := h
              refine wl_cq Try.call24 rfl rfl rfl (q_rd (k_codec_Reader_Err x78) (pCons (Sel.sc (Sel.sa Sel.hc)) pNil) (fun _ _ => trivial)) rfl ?_
              refine wl_pure (v := .bool (v78 != (0 : Int))) tt_ok rfl rfl ?_
              refine wl_nil ?_
              refine wx_then ?_
              refine wc_cond rfl (fun hc => ?_) (fun hc => ?_)
              · replace h := ct hc h
                refine wc_seq ?_
                refine wc_region ?_
                refine wl_pure tt_ok rfl rfl ?_
                refine wl_pure (v := .int .i64 (v31.length : Int)) tt_ok rfl rfl ?_
                refine wl_pure tt_ok rfl rfl ?_
                refine wl_pure (v := .int .i64 (p0.length : Int)) tt_ok rfl rfl ?_
                refine wl_pure (v := .bool (decide ((v31.length : Int) ≤ (p0.length : Int)))) tt_ok rfl rfl ?_
                refine wl_pure tt_ok rfl rfl ?_
                replace h := bsome h; obtain ⟨v92, h, hg92⟩ := h
                refine wl_split (t := 85) rfl (fun hc => ?_) (fun hc => ?_)
                · replace h := ct hc h
                  refine wl_run rfl ?_
                  refine wl_pure tt_ok rfl rfl ?_
                  refine wl_run rfl ?_
                  refine wl_pure tt_ok rfl rfl ?_
                  refine wl_run rfl ?_
                  refine wl_pure tt_ok rfl rfl ?_
                  refine wl_run rfl ?_
                  refine wl_pure (v := .int .i64 (v31.length : Int)) tt_ok rfl rfl ?_
                  replace h := bsome h; obtain ⟨v90, x90, h⟩ := h
                  refine wl_run rfl ?_
                  refine wl_val (v := .string ⟨v90.toArray⟩) (val_ss tt_ok rfl rfl (.inl ⟨rfl, rfl⟩) (.inr ⟨_, _, rfl, rfl⟩) x90) rfl ?_
                  refine wl_run rfl ?_
                  refine wl_val (v := .bool (v31 == v90)) (val_seq tt_ok rfl rfl) rfl ?_
                  simp only [Option.some.injEq, Prod.mk.injEq] at h
                  obtain rfl := h
                  have h := hg92; clear hg92
                  refine wl_pure (v := .bool (v31 == v90)) tt_ok rfl rfl ?_
                  refine wl_pure tt_ok rfl rfl ?_
                  replace h := bsome h; obtain ⟨v95, h, hg95⟩ := h
                  refine wl_split (t := 93) rfl (fun hc => ?_) (fun hc => ?_)
                  · replace h := ct hc h
                    replace h := bsome h; obtain ⟨v94, x94, h⟩ := h
                    refine wl_run rfl ?_
                    refine wl_cq Try.call9 rfl rfl rfl (q_pf (k_hindcastlaw02_works x94) (fun _ _ => trivial)) rfl ?_
                    simp only [Option.some.injEq, Prod.mk.injEq] at h
                    obtain rfl := h
                    have h := hg95; clear hg95
                    refine wl_pure (v := .bool v94) tt_ok rfl rfl ?_
                    refine wl_pure tt_ok rfl rfl ?_
                    refine wl_nil ?_
                    refine wx_then ?_
                    refine wc_ret ?_
                    refine wx_block_ret ?_
                    refine wx_then_ret ?_
                    obtain rfl := Option.some.inj h
                    have h := hl27; clear hl27; try dsimp only [orE_l, orE_r] at h
                    refine wx_then_ret ?_
                    refine wx_block_ret ?_
                    refine wx_then_ret ?_
                    simp only [Option.some.injEq] at h
                    obtain rfl := h
                    exact wx_pf tt_ok (.inl rfl) Try.results7 (Res.tmp rfl Res.nil) rfl
                  · replace h := cf hc h
                    refine wl_skip rfl rfl ?_
                    simp only [Option.some.injEq, Prod.mk.injEq] at h
                    obtain rfl := h
                    have h := hg95; clear hg95
                    refine wl_pure (v := .bool false) tt_ok rfl rfl ?_
                    refine wl_pure tt_ok rfl rfl ?_
                    refine wl_nil ?_
                    refine wx_then ?_
                    refine wc_ret ?_
                    refine wx_block_ret ?_
                    refine wx_then_ret ?_
                    obtain rfl := Option.some.inj h
                    have h := hl27; clear hl27; try dsimp only [orE_l, orE_r] at h
                    refine wx_then_ret ?_
                    refine wx_block_ret ?_
                    refine wx_then_ret ?_
                    simp only [Option.some.injEq] at h
                    obtain rfl := h
                    exact wx_pf tt_ok (.inl rfl) Try.results7 (Res.tmp rfl Res.nil) rfl
                · replace h := cf hc h
                  refine wl_skip rfl rfl ?_
                  refine wl_skip rfl rfl ?_
                  refine wl_skip rfl rfl ?_
                  refine wl_skip rfl rfl ?_
                  refine wl_skip rfl rfl ?_
                  refine wl_skip rfl rfl ?_
                  simp only [Option.some.injEq, Prod.mk.injEq] at h
                  obtain rfl := h
                  have h := hg92; clear hg92
                  refine wl_pure (v := .bool false) tt_ok rfl rfl ?_
                  refine wl_pure tt_ok rfl rfl ?_
                  replace h := bsome h; obtain ⟨v95, h, hg95⟩ := h
                  replace h := cf rfl h
                  refine wl_skip rfl rfl ?_
                  simp only [Option.some.injEq, Prod.mk.injEq] at h
                  obtain rfl := h
                  have h := hg95; clear hg95
                  refine wl_pure (v := .bool false) tt_ok rfl rfl ?_
                  refine wl_pure tt_ok rfl rfl ?_
                  refine wl_nil ?_
                  refine wx_then ?_
                  refine wc_ret ?_
                  refine wx_block_ret ?_
                  refine wx_then_ret ?_
                  obtain rfl := Option.some.inj h
                  have h := hl27; clear hl27; try dsimp only [orE_l, orE_r] at h
                  refine wx_then_ret ?_
                  refine wx_block_ret ?_
                  refine wx_then_ret ?_
                  simp only [Option.some.injEq] at h
                  obtain rfl := h
                  exact wx_pf tt_ok (.inl rfl) Try.results7 (Res.tmp rfl Res.nil) rfl
              · replace h := cf hc h
                refine wc_skip ?_
                refine wx_block ?_
                refine wx_then ?_
                refine wc_region ?_
                refine wl_pure tt_ok rfl rfl ?_
                refine wl_pure (v := .int .i64 (IntKind.wrap .i64 (j27_7 + (1 : Int)))) tt_ok rfl rfl ?_
                refine wl_pure tt_ok rfl rfl ?_
                refine wl_nil ?_
                exact wx_round m (Nat.lt_succ_self m) ⟨(IntKind.wrap .i64 (j27_7 + (1 : Int))), o57_0, o58_0, o58_0a0, o58_0c0, o58_0B0, h, o58_0V0, rfl, rfl⟩ (agree_cons rfl (agree_cons rfl (agree_cons rfl (agree_cons rfl (agree_cons rfl (agree_cons rfl agree_nil)))))) (pSub (pCons (Sel.sc (Sel.sa Sel.hc)) (pCons Sel.hc (pApp Sel.ha pNil))))
            · replace h := cf hc h
              refine wc_seq ?_
              refine wc_region ?_
              refine wl_pure (v := .bool ((Int.tmod v34 7) == (3 : Int))) tt_ok rfl rfl ?_
              refine wl_pure tt_ok rfl rfl ?_
              refine wl_nil ?_
              refine wx_then ?_
              refine wc_cond rfl (fun hc => ?_) (fun hc => ?_)
              · replace h := ct hc h
                refine wc_region ?_
                refine wl_pure tt_ok rfl rfl ?_
                refine wl_pure tt_ok rfl rfl ?_
                replace h := bsome h; obtain ⟨⟨o63_0, v63⟩, x63, h⟩ := h; try dsimp only at h
                refine wl_cs Try.call18 rfl rfl rfl (s_sp (k_codec_Reader_U64 x63) (pCons Sel.hc pNil) (fun _ _ => trivial)) rfl ?_
                rintro _ _ ⟨_, ⟨rfl, rfl⟩, rfl⟩
                replace h := bsome h; obtain ⟨o64_0, x64, h⟩ := h
                refine wl_cs Try.call35 rfl rfl rfl (s_sp (k_codec_Writer_U64 j27_n23V0 x64) (pCons (Sel.sc Sel.hc) (pApp (Sel.sc Sel.ha) pNil)) (fun _ _ => trivial)) rfl ?_
                rintro _ _ ⟨_, ⟨o64_0a0, o64_0c0, o64_0B0, o64_0V0, rfl, rfl⟩, rfl⟩
                refine wl_nil ?_
                refine wx_block ?_
                refine wx_then ?_
                refine wc_seq ?_
                refine wc_region ?_
                refine wl_pure tt_ok rfl rfl ?_
                replace h := bsome h; obtain ⟨v78, x78, h⟩ := h
                refine wl_cq Try.call24 rfl rfl rfl (q_rd (k_codec_Reader_Err x78) (pCons (Sel.sc (Sel.sa Sel.hc)) pNil) (fun _ _ => trivial)) rfl ?_
                refine wl_pure (v := .bool (v78 != (0 : Int))) tt_ok rfl rfl ?_
                refine wl_nil ?_
                refine wx_then ?_
                refine wc_cond rfl (fun hc => ?_) (fun hc => ?_)
                · replace h := ct hc h
                  refine wc_seq ?_
                  refine wc_region ?_
                  refine wl_pure tt_ok rfl rfl ?_
                  refine wl_pure (v := .int .i64 (v31.length : Int)) tt_ok rfl rfl ?_
                  refine wl_pure tt_ok rfl rfl ?_
                  refine wl_pure (v := .int .i64 (p0.length : Int)) tt_ok rfl rfl ?_
                  refine wl_pure (v := .bool (decide ((v31.length : Int) ≤ (p0.length : Int)))) tt_ok rfl rfl ?_
                  refine wl_pure tt_ok rfl rfl ?_
                  replace h := bsome h; obtain ⟨v92, h, hg92⟩ := h
                  refine wl_split (t := 85) rfl (fun hc => ?_) (fun hc => ?_)
                  · replace h := ct hc h
                    refine wl_run rfl ?_
                    refine wl_pure tt_ok rfl rfl ?_
                    refine wl_run rfl ?_
                    refine wl_pure tt_ok rfl rfl ?_
                    refine wl_run rfl ?_
                    refine wl_pure tt_ok rfl rfl ?_
                    refine wl_run rfl ?_
                    refine wl_pure (v := .int .i64 (v31.length : Int)) tt_ok rfl rfl ?_
                    replace h := bsome h; obtain ⟨v90, x90, h⟩ := h
                    refine wl_run rfl ?_
                    refine wl_val (v := .string ⟨v90.toArray⟩) (val_ss tt_ok rfl rfl (.inl ⟨rfl, rfl⟩) (.inr ⟨_, _, rfl, rfl⟩) x90) rfl ?_
                    refine wl_run rfl ?_
                    refine wl_val (v := .bool (v31 == v90)) (val_seq tt_ok rfl rfl) rfl ?_
                    simp only [Option.some.injEq, Prod.mk.injEq] at h
                    obtain rfl := h
                    have h := hg92; clear hg92
                    refine wl_pure (v := .bool (v31 == v90)) tt_ok rfl rfl ?_
                    refine wl_pure tt_ok rfl rfl ?_
                    replace h := bsome h; obtain ⟨v95, h, hg95⟩ := h
                    refine wl_split (t := 93) rfl (fun hc => ?_) (fun hc => ?_)
                    · replace h := ct hc h
                      replace h := bsome h; obtain ⟨v94, x94, h⟩ := h
                      refine wl_run rfl ?_
                      refine wl_cq Try.call9 rfl rfl rfl (q_pf (k_hindcastlaw02_works x94) (fun _ _ => trivial)) rfl ?_
                      simp only [Option.some.injEq, Prod.mk.injEq] at h
                      obtain rfl := h
                      have h := hg95; clear hg95
                      refine wl_pure (v := .bool v94) tt_ok rfl rfl ?_
                      refine wl_pure tt_ok rfl rfl ?_
                      refine wl_nil ?_
                      refine wx_then ?_
                      refine wc_ret ?_
                      refine wx_block_ret ?_
                      refine wx_then_ret ?_
                      obtain rfl := Option.some.inj h
                      have h := hl27; clear hl27; try dsimp only [orE_l, orE_r] at h
                      refine wx_then_ret ?_
                      refine wx_block_ret ?_
                      refine wx_then_ret ?_
                      simp only [Option.some.injEq] at h
                      obtain rfl := h
                      exact wx_pf tt_ok (.inl rfl) Try.results7 (Res.tmp rfl Res.nil) rfl
                    · replace h := cf hc h
                      refine wl_skip rfl rfl ?_
                      simp only [Option.some.injEq, Prod.mk.injEq] at h
                      obtain rfl := h
                      have h := hg95; clear hg95
                      refine wl_pure (v := .bool false) tt_ok rfl rfl ?_
                      refine wl_pure tt_ok rfl rfl ?_
                      refine wl_nil ?_
                      refine wx_then ?_
                      refine wc_ret ?_
                      refine wx_block_ret ?_
                      refine wx_then_ret ?_
                      obtain rfl := Option.some.inj h
                      have h := hl27; clear hl27; try dsimp only [orE_l, orE_r] at h
                      refine wx_then_ret ?_
                      refine wx_block_ret ?_
                      refine wx_then_ret ?_
                      simp only [Option.some.injEq] at h
                      obtain rfl := h
                      exact wx_pf tt_ok (.inl rfl) Try.results7 (Res.tmp rfl Res.nil) rfl
                  · replace h := cf hc h
                    refine wl_skip rfl rfl ?_
                    refine wl_skip rfl rfl ?_
                    refine wl_skip rfl rfl ?_
                    refine wl_skip rfl rfl ?_
                    refine wl_skip rfl rfl ?_
                    refine wl_skip rfl rfl ?_
                    simp only [Option.some.injEq, Prod.mk.injEq] at h
                    obtain rfl := h
                    have h := hg92; clear hg92
                    refine wl_pure (v := .bool false) tt_ok rfl rfl ?_
                    refine wl_pure tt_ok rfl rfl ?_
                    replace h := bsome h; obtain ⟨v95, h, hg95⟩ := h
                    replace h := cf rfl h
                    refine wl_skip rfl rfl ?_
                    simp only [Option.some.injEq, Prod.mk.injEq] at h
                    obtain rfl := h
                    have h := hg95; clear hg95
                    refine wl_pure (v := .bool false) tt_ok rfl rfl ?_
                    refine wl_pure tt_ok rfl rfl ?_
                    refine wl_nil ?_
                    refine wx_then ?_
                    refine wc_ret ?_
                    refine wx_block_ret ?_
                    refine wx_then_ret ?_
                    obtain rfl := Option.some.inj h
                    have h := hl27; clear hl27; try dsimp only [orE_l, orE_r] at h
                    refine wx_then_ret ?_
                    refine wx_block_ret ?_
                    refine wx_then_ret ?_
                    simp only [Option.some.injEq] at h
                    obtain rfl := h
                    exact wx_pf tt_ok (.inl rfl) Try.results7 (Res.tmp rfl Res.nil) rfl
                · replace h := cf hc h
                  refine wc_skip ?_
                  refine wx_block ?_
                  refine wx_then ?_
                  refine wc_region ?_
                  refine wl_pure tt_ok rfl rfl ?_
                  refine wl_pure (v := .int .i64 (IntKind.wrap .i64 (j27_7 + (1 : Int)))) tt_ok rfl rfl ?_
                  refine wl_pure tt_ok rfl rfl ?_
                  refine wl_nil ?_
                  exact wx_round m (Nat.lt_succ_self m) ⟨(IntKind.wrap .i64 (j27_7 + (1 : Int))), o63_0, o64_0, o64_0a0, o64_0c0, o64_0B0, h, o64_0V0, rfl, rfl⟩ (agree_cons rfl (agree_cons rfl (agree_cons rfl (agree_cons rfl (agree_cons rfl (agree_cons rfl agree_nil)))))) (pSub (pCons (Sel.sc (Sel.sa Sel.hc)) (pCons Sel.hc (pApp Sel.ha pNil))))
              · replace h := cf hc h
                refine wc_seq ?_
                refine wc_region ?_
                refine wl_pure (v := .bool ((Int.tmod v34 7) == (4 : Int))) tt_ok rfl rfl ?_
                refine wl_pure tt_ok rfl rfl ?_
                refine wl_nil ?_
                refine wx_then ?_
                refine wc_cond rfl (fun hc => ?_) (fun hc => ?_)
                · replace h := ct hc h
                  refine wc_region ?_
                  refine wl_pure tt_ok rfl rfl ?_
                  refine wl_pure tt_ok rfl rfl ?_
                  replace h := bsome h; obtain ⟨⟨o69_0, v69⟩, x69, h⟩ := h; try dsimp only at h
                  refine wl_cs Try.call19 rfl rfl rfl (s_sp (k_codec_Reader_I32 x69) (pCons Sel.hc pNil) (fun _ _ => trivial)) rfl ?_
                  rintro _ _ ⟨_, ⟨rfl, rfl⟩, rfl⟩
                  replace h := bsome h; obtain ⟨o70_0, x70, h⟩ := h
                  refine wl_cs Try.call36 rfl rfl rfl (s_sp (k_codec_Writer_I32 j27_n23V0 x70) (pCons (Sel.sc Sel.hc) (pApp (Sel.sc Sel.ha) pNil)) (fun _ _ => trivial)) rfl ?_
                  rintro _ _ ⟨_, ⟨o70_0a0, o70_0c0, o70_0B0, o70_0V0, rfl, rfl⟩, rfl⟩
                  refine wl_nil ?_
                  refine wx_block ?_
                  refine wx_then ?_
                  refine wc_seq ?_
                  refine wc_region ?_
                  refine wl_pure tt_ok rfl rfl ?_
                  replace h := bsome h; obtain ⟨v78, x78, h⟩ := h
                  refine wl_cq Try.call24 rfl rfl rfl (q_rd (k_codec_Reader_Err x78) (pCons (Sel.sc (Sel.sa Sel.hc)) pNil) (fun _ _ => trivial)) rfl ?_
                  refine wl_pure (v := .bool (v78 != (0 : Int))) tt_ok rfl rfl ?_
                  refine wl_nil ?_
                  refine wx_then ?_
                  refine wc_cond rfl (fun hc => ?_) (fun hc => ?_)
                  · replace h := ct hc h
                    refine wc_seq ?_
                    refine wc_region ?_
                    refine wl_pure tt_ok rfl rfl ?_
                    refine wl_pure (v := .int .i64 (v31.length : Int)) tt_ok rfl rfl ?_
                    refine wl_pure tt_ok rfl rfl ?_
                    refine wl_pure (v := .int .i64 (p0.length : Int)) tt_ok rfl rfl ?_
                    refine wl_pure (v := .bool (decide ((v31.length : Int) ≤ (p0.length : Int)))) tt_ok rfl rfl ?_
                    refine wl_pure tt_ok rfl rfl ?_
                    replace h := bsome h; obtain ⟨v92, h, hg92⟩ := h
                    refine wl_split (t := 85) rfl (fun hc => ?_) (fun hc => ?_)
                    · replace h := ct hc h
                      refine wl_run rfl ?_
                      refine wl_pure tt_ok rfl rfl ?_
                      refine wl_run rfl ?_
                      refine wl_pure tt_ok rfl rfl ?_
                      refine wl_run rfl ?_
                      refine wl_pure tt_ok rfl rfl ?_
                      refine wl_run rfl ?_
                      refine wl_pure (v := .int .i64 (v31.length : Int)) tt_ok rfl rfl ?_
                      replace h := bsome h; obtain ⟨v90, x90, h⟩ := h
                      refine wl_run rfl ?_
                      refine wl_val (v := .string ⟨v90.toArray⟩) (val_ss tt_ok rfl rfl (.inl ⟨rfl, rfl⟩) (.inr ⟨_, _, rfl, rfl⟩) x90) rfl ?_
                      refine wl_run rfl ?_
                      refine wl_val (v := .bool (v31 == v90)) (val_seq tt_ok rfl rfl) rfl ?_
                      simp only [Option.some.injEq, Prod.mk.injEq] at h
                      obtain rfl := h
                      have h := hg92; clear hg92
                      refine wl_pure (v := .bool (v31 == v90)) tt_ok rfl rfl ?_
                      refine wl_pure tt_ok rfl rfl ?_
                      replace h := bsome h; obtain ⟨v95, h, hg95⟩ := h
                      refine wl_split (t := 93) rfl (fun hc => ?_) (fun hc => ?_)
                      · replace h := ct hc h
                        replace h := bsome h; obtain ⟨v94, x94, h⟩ := h
                        refine wl_run rfl ?_
                        refine wl_cq Try.call9 rfl rfl rfl (q_pf (k_hindcastlaw02_works x94) (fun _ _ => trivial)) rfl ?_
                        simp only [Option.some.injEq, Prod.mk.injEq] at h
                        obtain rfl := h
                        have h := hg95; clear hg95
                        refine wl_pure (v := .bool v94) tt_ok rfl rfl ?_
                        refine wl_pure tt_ok rfl rfl ?_
                        refine wl_nil ?_
                        refine wx_then ?_
                        refine wc_ret ?_
                        refine wx_block_ret ?_
                        refine wx_then_ret ?_
                        obtain rfl := Option.some.inj h
                        have h := hl27; clear hl27; try dsimp only [orE_l, orE_r] at h
                        refine wx_then_ret ?_
                        refine wx_block_ret ?_
                        refine wx_then_ret ?_
                        simp only [Option.some.injEq] at h
                        obtain rfl := h
                        exact wx_pf tt_ok (.inl rfl) Try.results7 (Res.tmp rfl Res.nil) rfl
                      · replace h := cf hc h
                        refine wl_skip rfl rfl ?_
                        simp only [Option.some.injEq, Prod.mk.injEq] at h
                        obtain rfl := h
                        have h := hg95; clear hg95
                        refine wl_pure (v := .bool false) tt_ok rfl rfl ?_
                        refine wl_pure tt_ok rfl rfl ?_
                        refine wl_nil ?_
                        refine wx_then ?_
                        refine wc_ret ?_
                        refine wx_block_ret ?_
                        refine wx_then_ret ?_
                        obtain rfl := Option.some.inj h
                        have h := hl27; clear hl27; try dsimp only [orE_l, orE_r] at h
                        refine wx_then_ret ?_
                        refine wx_block_ret ?_
                        refine wx_then_ret ?_
                        simp only [Option.some.injEq] at h
                        obtain rfl := h
                        exact wx_pf tt_ok (.inl rfl) Try.results7 (Res.tmp rfl Res.nil) rfl
                    · replace h := cf hc h
                      refine wl_skip rfl rfl ?_
                      refine wl_skip rfl rfl ?_
                      refine wl_skip rfl rfl ?_
                      refine wl_skip rfl rfl ?_
                      refine wl_skip rfl rfl ?_
                      refine wl_skip rfl rfl ?_
                      simp only [Option.some.injEq, Prod.mk.injEq] at h
                      obtain rfl := h
                      have h := hg92; clear hg92
                      refine wl_pure (v := .bool false) tt_ok rfl rfl ?_
                      refine wl_pure tt_ok rfl rfl ?_
                      replace h := bsome h; obtain ⟨v95, h, hg95⟩ := h
                      replace h := cf rfl h
                      refine wl_skip rfl rfl ?_
                      simp only [Option.some.injEq, Prod.mk.injEq] at h
                      obtain rfl := h
                      have h := hg95; clear hg95
                      refine wl_pure (v := .bool false) tt_ok rfl rfl ?_
                      refine wl_pure tt_ok rfl rfl ?_
                      refine wl_nil ?_
                      refine wx_then ?_
                      refine wc_ret ?_
                      refine wx_block_ret ?_
                      refine wx_then_ret ?_
                      obtain rfl := Option.some.inj h
                      have h := hl27; clear hl27; try dsimp only [orE_l, orE_r] at h
                      refine wx_then_ret ?_
                      refine wx_block_ret ?_
                      refine wx_then_ret ?_
                      simp only [Option.some.injEq] at h
                      obtain rfl := h
                      exact wx_pf tt_ok (.inl rfl) Try.results7 (Res.tmp rfl Res.nil) rfl
                  · replace h := cf hc h
                    refine wc_skip ?_
                    refine wx_block ?_
                    refine wx_then ?_
                    refine wc_region ?_
                    refine wl_pure tt_ok rfl rfl ?_
                    refine wl_pure (v := .int .i64 (IntKind.wrap .i64 (j27_7 + (1 : Int)))) tt_ok rfl rfl ?_
                    refine wl_pure tt_ok rfl rfl ?_
                    refine wl_nil ?_
                    exact wx_round m (Nat.lt_succ_self m) ⟨(IntKind.wrap .i64 (j27_7 + (1 : Int))), o69_0, o70_0, o70_0a0, o70_0c0, o70_0B0, h, o70_0V0, rfl, rfl⟩ (agree_cons rfl (agree_cons rfl (agree_cons rfl (agree_cons rfl (agree_cons rfl (agree_cons rfl agree_nil)))))) (pSub (pCons (Sel.sc (Sel.sa Sel.hc)) (pCons Sel.hc (pApp Sel.ha pNil))))
                · replace h := cf hc h
                  refine wc_seq ?_
                  refine wc_region ?_
                  refine wl_pure (v := .bool ((Int.tmod v34 7) == (5 : Int))) tt_ok rfl rfl ?_
                  refine wl_pure tt_ok rfl rfl ?_
                  refine wl_nil ?_
                  refine wx_then ?_
                  refine wc_cond rfl (fun hc => ?_) (fun hc => ?_)
                  · replace h := ct hc h
                    refine wc_region ?_
                    refine wl_pure tt_ok rfl rfl ?_
                    refine wl_pure tt_ok rfl rfl ?_
                    replace h := bsome h; obtain ⟨⟨o75_0, v75⟩, x75, h⟩ := h; try dsimp only at h
                    refine wl_cs Try.call20 rfl rfl rfl (s_sp (k_codec_Reader_Var x75) (pCons Sel.hc pNil) (fun _ _ => trivial)) rfl ?_
                    rintro _ _ ⟨_, ⟨rfl, rfl⟩, rfl⟩
                    replace h := bsome h; obtain ⟨o76_0, x76, h⟩ := h
                    refine wl_cs Try.call37 rfl rfl rfl (s_sp (k_codec_Writer_Var j27_n23V0 x76) (pCons (Sel.sc Sel.hc) (pApp (Sel.sc Sel.ha) pNil)) (fun _ _ => trivial)) rfl ?_
                    rintro _ _ ⟨_, ⟨o76_0a0, o76_0c0, o76_0B0, o76_0V0, rfl, rfl⟩, rfl⟩
                    refine wl_nil ?_
                    refine wx_block ?_
                    refine wx_then ?_
                    refine wc_seq ?_
                    refine wc_region ?_
                    refine wl_pure tt_ok rfl rfl ?_
                    replace h := bsome h; obtain ⟨v78, x78, h⟩ := h
                    refine wl_cq Try.call24 rfl rfl rfl (q_rd (k_codec_Reader_Err x78) (pCons (Sel.sc (Sel.sa Sel.hc)) pNil) (fun _ _ => trivial)) rfl ?_
                    refine wl_pure (v := .bool (v78 != (0 : Int))) tt_ok rfl rfl ?_
                    refine wl_nil ?_
                    refine wx_then ?_
                    refine wc_cond rfl (fun hc => ?_) (fun hc => ?_)
                    · replace h := ct hc h
                      refine wc_seq ?_
                      refine wc_region ?_
                      refine wl_pure tt_ok rfl rfl ?_
                      refine wl_pure (v := .int .i64 (v31.length : Int)) tt_ok rfl rfl ?_
                      refine wl_pure tt_ok rfl rfl ?_
                      refine wl_pure (v := .int .i64 (p0.length : Int)) tt_ok rfl rfl ?_
                      refine wl_pure (v := .bool (decide ((v31.length : Int) ≤ (p0.length : Int)))) tt_ok rfl rfl ?_
                      refine wl_pure tt_ok rfl rfl ?_
                      replace h := bsome h; obtain ⟨v92, h, hg92⟩ := h
                      refine wl_split (t := 85) rfl (fun hc => ?_) (fun hc => ?_)
                      · replace h := ct hc h
                        refine wl_run rfl ?_
                        refine wl_pure tt_ok rfl rfl ?_
                        refine wl_run rfl ?_
                        refine wl_pure tt_ok rfl rfl ?_
                        refine wl_run rfl ?_
                        refine wl_pure tt_ok rfl rfl ?_
                        refine wl_run rfl ?_
                        refine wl_pure (v := .int .i64 (v31.length : Int)) tt_ok rfl rfl ?_
                        replace h := bsome h; obtain ⟨v90, x90, h⟩ := h
                        refine wl_run rfl ?_
                        refine wl_val (v := .string ⟨v90.toArray⟩) (val_ss tt_ok rfl rfl (.inl ⟨rfl, rfl⟩) (.inr ⟨_, _, rfl, rfl⟩) x90) rfl ?_
                        refine wl_run rfl ?_
                        refine wl_val (v := .bool (v31 == v90)) (val_seq tt_ok rfl rfl) rfl ?_
                        simp only [Option.some.injEq, Prod.mk.injEq] at h
                        obtain rfl := h
                        have h := hg92; clear hg92
                        refine wl_pure (v := .bool (v31 == v90)) tt_ok rfl rfl ?_
                        refine wl_pure tt_ok rfl rfl ?_
                        replace h := bsome h; obtain ⟨v95, h, hg95⟩ := h
                        refine wl_split (t := 93) rfl (fun hc => ?_) (fun hc => ?_)
                        · replace h := ct hc h
                          replace h := bsome h; obtain ⟨v94, x94, h⟩ := h
                          refine wl_run rfl ?_
                          refine wl_cq Try.call9 rfl rfl rfl (q_pf (k_hindcastlaw02_works x94) (fun _ _ => trivial)) rfl ?_
                          simp only [Option.some.injEq, Prod.mk.injEq] at h
                          obtain rfl := h
                          have h := hg95; clear hg95
                          refine wl_pure (v := .bool v94) tt_ok rfl rfl ?_
                          refine wl_pure tt_ok rfl rfl ?_
                          refine wl_nil ?_
                          refine wx_then ?_
                          refine wc_ret ?_
                          refine wx_block_ret ?_
                          refine wx_then_ret ?_
                          obtain rfl := Option.some.inj h
                          have h := hl27; clear hl27; try dsimp only [orE_l, orE_r] at h
                          refine wx_then_ret ?_
                          refine wx_block_ret ?_
                          refine wx_then_ret ?_
                          simp only [Option.some.injEq] at h
                          obtain rfl := h
                          exact wx_pf tt_ok (.inl rfl) Try.results7 (Res.tmp rfl Res.nil) rfl
                        · replace h := cf hc h
                          refine wl_skip rfl rfl ?_
                          simp only [Option.some.injEq, Prod.mk.injEq] at h
                          obtain rfl := h
                          have h := hg95; clear hg95
                          refine wl_pure (v := .bool false) tt_ok rfl rfl ?_
                          refine wl_pure tt_ok rfl rfl ?_
                          refine wl_nil ?_
                          refine wx_then ?_
                          refine wc_ret ?_
                          refine wx_block_ret ?_
                          refine wx_then_ret ?_
                          obtain rfl := Option.some.inj h
                          have h := hl27; clear hl27; try dsimp only [orE_l, orE_r] at h
                          refine wx_then_ret ?_
                          refine wx_block_ret ?_
                          refine wx_then_ret ?_
                          simp only [Option.some.injEq] at h
                          obtain rfl := h
                          exact wx_pf tt_ok (.inl rfl) Try.results7 (Res.tmp rfl Res.nil) rfl
                      · replace h := cf hc h
                        refine wl_skip rfl rfl ?_
                        refine wl_skip rfl rfl ?_
                        refine wl_skip rfl rfl ?_
                        refine wl_skip rfl rfl ?_
                        refine wl_skip rfl rfl ?_
                        refine wl_skip rfl rfl ?_
                        simp only [Option.some.injEq, Prod.mk.injEq] at h
                        obtain rfl := h
                        have h := hg92; clear hg92
                        refine wl_pure (v := .bool false) tt_ok rfl rfl ?_
                        refine wl_pure tt_ok rfl rfl ?_
                        replace h := bsome h; obtain ⟨v95, h, hg95⟩ := h
                        replace h := cf rfl h
                        refine wl_skip rfl rfl ?_
                        simp only [Option.some.injEq, Prod.mk.injEq] at h
                        obtain rfl := h
                        have h := hg95; clear hg95
                        refine wl_pure (v := .bool false) tt_ok rfl rfl ?_
                        refine wl_pure tt_ok rfl rfl ?_
                        refine wl_nil ?_
                        refine wx_then ?_
                        refine wc_ret ?_
                        refine wx_block_ret ?_
                        refine wx_then_ret ?_
                        obtain rfl := Option.some.inj h
                        have h := hl27; clear hl27; try dsimp only [orE_l, orE_r] at h
                        refine wx_then_ret ?_
                        refine wx_block_ret ?_
                        refine wx_then_ret ?_
                        simp only [Option.some.injEq] at h
                        obtain rfl := h
                        exact wx_pf tt_ok (.inl rfl) Try.results7 (Res.tmp rfl Res.nil) rfl
                    · replace h := cf hc h
                      refine wc_skip ?_
                      refine wx_block ?_
                      refine wx_then ?_
                      refine wc_region ?_
                      refine wl_pure tt_ok rfl rfl ?_
                      refine wl_pure (v := .int .i64 (IntKind.wrap .i64 (j27_7 + (1 : Int)))) tt_ok rfl rfl ?_
                      refine wl_pure tt_ok rfl rfl ?_
                      refine wl_nil ?_
                      exact wx_round m (Nat.lt_succ_self m) ⟨(IntKind.wrap .i64 (j27_7 + (1 : Int))), o75_0, o76_0, o76_0a0, o76_0c0, o76_0B0, h, o76_0V0, rfl, rfl⟩ (agree_cons rfl (agree_cons rfl (agree_cons rfl (agree_cons rfl (agree_cons rfl (agree_cons rfl agree_nil)))))) (pSub (pCons (Sel.sc (Sel.sa Sel.hc)) (pCons Sel.hc (pApp Sel.ha pNil))))
                  · replace h := cf hc h
                    refine wc_region ?_
                    refine wl_pure tt_ok rfl rfl ?_
                    refine wl_pure tt_ok rfl rfl ?_
                    replace h := bsome h; obtain ⟨⟨o39_0, v39⟩, x39, h⟩ := h; try dsimp only at h
                    refine wl_cs Try.call22 rfl rfl rfl (s_sp (k_codec_Reader_Text x39) (pCons Sel.hc pNil) (fun _ _ => trivial)) rfl ?_
                    rintro _ _ ⟨_, ⟨rfl, rfl⟩, rfl⟩
                    replace h := bsome h; obtain ⟨o40_0, x40, h⟩ := h
                    refine wl_cs Try.call30 rfl rfl rfl (s_sp (k_codec_Writer_Text j27_n23V0 x40) (pCons (Sel.sc Sel.hc) (pApp (Sel.sc Sel.ha) pNil)) (fun _ _ => trivial)) rfl ?_
                    rintro _ _ ⟨_, ⟨o40_0a0, o40_0c0, o40_0B0, o40_0V0, rfl, rfl⟩, rfl⟩
                    refine wl_nil ?_
                    refine wx_block ?_
                    refine wx_then ?_
                    refine wc_seq ?_
                    refine wc_region ?_
                    refine wl_pure tt_ok rfl rfl ?_
                    replace h := bsome h; obtain ⟨v78, x78, h⟩ := h
                    refine wl_cq Try.call24 rfl rfl rfl (q_rd (k_codec_Reader_Err x78) (pCons (Sel.sc (Sel.sa Sel.hc)) pNil) (fun _ _ => trivial)) rfl ?_
                    refine wl_pure (v := .bool (v78 != (0 : Int))) tt_ok rfl rfl ?_
                    refine wl_nil ?_
                    refine wx_then ?_
                    refine wc_cond rfl (fun hc => ?_) (fun hc => ?_)
                    · replace h := ct hc h
                      refine wc_seq ?_
                      refine wc_region ?_
                      refine wl_pure tt_ok rfl rfl ?_
                      refine wl_pure (v := .int .i64 (v31.length : Int)) tt_ok rfl rfl ?_
                      refine wl_pure tt_ok rfl rfl ?_
                      refine wl_pure (v := .int .i64 (p0.length : Int)) tt_ok rfl rfl ?_
                      refine wl_pure (v := .bool (decide ((v31.length : Int) ≤ (p0.length : Int)))) tt_ok rfl rfl ?_
                      refine wl_pure tt_ok rfl rfl ?_
                      replace h := bsome h; obtain ⟨v92, h, hg92⟩ := h
                      refine wl_split (t := 85) rfl (fun hc => ?_) (fun hc => ?_)
                      · replace h := ct hc h
                        refine wl_run rfl ?_
                        refine wl_pure tt_ok rfl rfl ?_
                        refine wl_run rfl ?_
                        refine wl_pure tt_ok rfl rfl ?_
                        refine wl_run rfl ?_
                        refine wl_pure tt_ok rfl rfl ?_
                        refine wl_run rfl ?_
                        refine wl_pure (v := .int .i64 (v31.length : Int)) tt_ok rfl rfl ?_
                        replace h := bsome h; obtain ⟨v90, x90, h⟩ := h
                        refine wl_run rfl ?_
                        refine wl_val (v := .string ⟨v90.toArray⟩) (val_ss tt_ok rfl rfl (.inl ⟨rfl, rfl⟩) (.inr ⟨_, _, rfl, rfl⟩) x90) rfl ?_
                        refine wl_run rfl ?_
                        refine wl_val (v := .bool (v31 == v90)) (val_seq tt_ok rfl rfl) rfl ?_
                        simp only [Option.some.injEq, Prod.mk.injEq] at h
                        obtain rfl := h
                        have h := hg92; clear hg92
                        refine wl_pure (v := .bool (v31 == v90)) tt_ok rfl rfl ?_
                        refine wl_pure tt_ok rfl rfl ?_
                        replace h := bsome h; obtain ⟨v95, h, hg95⟩ := h
                        refine wl_split (t := 93) rfl (fun hc => ?_) (fun hc => ?_)
                        · replace h := ct hc h
                          replace h := bsome h; obtain ⟨v94, x94, h⟩ := h
                          refine wl_run rfl ?_
                          refine wl_cq Try.call9 rfl rfl rfl (q_pf (k_hindcastlaw02_works x94) (fun _ _ => trivial)) rfl ?_
                          simp only [Option.some.injEq, Prod.mk.injEq] at h
                          obtain rfl := h
                          have h := hg95; clear hg95
                          refine wl_pure (v := .bool v94) tt_ok rfl rfl ?_
                          refine wl_pure tt_ok rfl rfl ?_
                          refine wl_nil ?_
                          refine wx_then ?_
                          refine wc_ret ?_
                          refine wx_block_ret ?_
                          refine wx_then_ret ?_
                          obtain rfl := Option.some.inj h
                          have h := hl27; clear hl27; try dsimp only [orE_l, orE_r] at h
                          refine wx_then_ret ?_
                          refine wx_block_ret ?_
                          refine wx_then_ret ?_
                          simp only [Option.some.injEq] at h
                          obtain rfl := h
                          exact wx_pf tt_ok (.inl rfl) Try.results7 (Res.tmp rfl Res.nil) rfl
                        · replace h := cf hc h
                          refine wl_skip rfl rfl ?_
                          simp only [Option.some.injEq, Prod.mk.injEq] at h
                          obtain rfl := h
                          have h := hg95; clear hg95
                          refine wl_pure (v := .bool false) tt_ok rfl rfl ?_
                          refine wl_pure tt_ok rfl rfl ?_
                          refine wl_nil ?_
                          refine wx_then ?_
                          refine wc_ret ?_
                          refine wx_block_ret ?_
                          refine wx_then_ret ?_
                          obtain rfl := Option.some.inj h
                          have h := hl27; clear hl27; try dsimp only [orE_l, orE_r] at h
                          refine wx_then_ret ?_
                          refine wx_block_ret ?_
                          refine wx_then_ret ?_
                          simp only [Option.some.injEq] at h
                          obtain rfl := h
                          exact wx_pf tt_ok (.inl rfl) Try.results7 (Res.tmp rfl Res.nil) rfl
                      · replace h := cf hc h
                        refine wl_skip rfl rfl ?_
                        refine wl_skip rfl rfl ?_
                        refine wl_skip rfl rfl ?_
                        refine wl_skip rfl rfl ?_
                        refine wl_skip rfl rfl ?_
                        refine wl_skip rfl rfl ?_
                        simp only [Option.some.injEq, Prod.mk.injEq] at h
                        obtain rfl := h
                        have h := hg92; clear hg92
                        refine wl_pure (v := .bool false) tt_ok rfl rfl ?_
                        refine wl_pure tt_ok rfl rfl ?_
                        replace h := bsome h; obtain ⟨v95, h, hg95⟩ := h
                        replace h := cf rfl h
                        refine wl_skip rfl rfl ?_
                        simp only [Option.some.injEq, Prod.mk.injEq] at h
                        obtain rfl := h
                        have h := hg95; clear hg95
                        refine wl_pure (v := .bool false) tt_ok rfl rfl ?_
                        refine wl_pure tt_ok rfl rfl ?_
                        refine wl_nil ?_
                        refine wx_then ?_
                        refine wc_ret ?_
                        refine wx_block_ret ?_
                        refine wx_then_ret ?_
                        obtain rfl := Option.some.inj h
                        have h := hl27; clear hl27; try dsimp only [orE_l, orE_r] at h
                        refine wx_then_ret ?_
                        refine wx_block_ret ?_
                        refine wx_then_ret ?_
                        simp only [Option.some.injEq] at h
                        obtain rfl := h
                        exact wx_pf tt_ok (.inl rfl) Try.results7 (Res.tmp rfl Res.nil) rfl
                    · replace h := cf hc h
                      refine wc_skip ?_
                      refine wx_block ?_
                      refine wx_then ?_
                      refine wc_region ?_
                      refine wl_pure tt_ok rfl rfl ?_
                      refine wl_pure (v := .int .i64 (IntKind.wrap .i64 (j27_7 + (1 : Int)))) tt_ok rfl rfl ?_
                      refine wl_pure tt_ok rfl rfl ?_
                      refine wl_nil ?_
                      exact wx_round m (Nat.lt_succ_self m) ⟨(IntKind.wrap .i64 (j27_7 + (1 : Int))), o39_0, o40_0, o40_0a0, o40_0c0, o40_0B0, h, o40_0V0, rfl, rfl⟩ (agree_cons rfl (agree_cons rfl (agree_cons rfl (agree_cons rfl (agree_cons rfl (agree_cons rfl agree_nil)))))) (pSub (pCons (Sel.sc (Sel.sa Sel.hc)) (pCons Sel.hc (pApp Sel.ha pNil))))
      · replace h := cf hc h
        refine wc_exit ?_
        refine wx_then_exit ?_
        obtain rfl := Option.some.inj h
        have h := hl27; clear hl27; try dsimp only [orE_l, orE_r] at h
        refine wx_then_exit ?_
        refine wx_block_exit ?_
        refine wx_then ?_
        refine wc_seq ?_
        refine wc_region ?_
        refine wl_pure tt_ok rfl rfl ?_
        replace h := bsome h; obtain ⟨v97, x97, h⟩ := h
        refine wl_cq Try.call12 rfl rfl rfl (q_rd (k_codec_Writer_Bytes j27_n23V0 x97) (pCons (Sel.sc Sel.hc) (pApp (Sel.sc Sel.ha) pNil)) (fun _ _ => trivial)) rfl ?_
        refine wl_pure tt_ok rfl rfl ?_
        replace h := bsome h; obtain ⟨v99, x99, h⟩ := h
        refine wl_cq Try.call25 rfl rfl rfl (q_rd (k_codec_Reader_Rest x99) (pCons Sel.hc pNil) (fun _ _ => trivial)) rfl ?_
        replace h := bsome h; obtain ⟨v100, x100, h⟩ := h
        refine wl_val (v := .string ⟨v100.toArray⟩) (val_cat tt_ok rfl rfl x100) rfl ?_
        refine wl_pure tt_ok rfl rfl ?_
        refine wl_val (v := .bool (v100 == p0)) (val_seq tt_ok rfl rfl) rfl ?_
        refine wl_pure tt_ok rfl rfl ?_
        replace h := bsome h; obtain ⟨v105, h, hg105⟩ := h
        refine wl_split (t := 103) rfl (fun hc => ?_) (fun hc => ?_)
        · replace h := ct hc h
          replace h := bsome h; obtain ⟨v104, x104, h⟩ := h
          refine wl_run rfl ?_
          refine wl_cq Try.call9 rfl rfl rfl (q_pf (k_hindcastlaw02_works x104) (fun _ _ => trivial)) rfl ?_
          simp only [Option.some.injEq, Prod.mk.injEq] at h
          obtain rfl := h
          have h := hg105; clear hg105
          refine wl_pure (v := .bool v104) tt_ok rfl rfl ?_
          refine wl_pure tt_ok rfl rfl ?_
          refine wl_nil ?_
          refine wx_then ?_
          refine wc_ret ?_
          simp only [Option.some.injEq] at h
          obtain rfl := h
          exact wx_pf tt_ok (.inl rfl) Try.results7 (Res.tmp rfl Res.nil) rfl
        · replace h := cf hc h
          refine wl_skip rfl rfl ?_
          simp only [Option.some.injEq, Prod.mk.injEq] at h
          obtain rfl := h
          have h := hg105; clear hg105
          refine wl_pure (v := .bool false) tt_ok rfl rfl ?_
          refine wl_pure tt_ok rfl rfl ?_
          refine wl_nil ?_
          refine wx_then ?_
          refine wc_ret ?_
          simp only [Option.some.injEq] at h
          obtain rfl := h
          exact wx_pf tt_ok (.inl rfl) Try.results7 (Res.tmp rfl Res.nil) rfl

end Go.Proofs.Ytpcaiefefanpoaa
