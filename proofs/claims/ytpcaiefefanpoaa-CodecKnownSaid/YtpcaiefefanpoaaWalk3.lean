/-
  Each function computes what its model says. Printed by a program of this claim's own.
-/
import Derived.Test.YtpcaiefefanpoaaTab
import Derived.Test.YtpcaiefefanpoaaMod
import Derived.Test.YtpcaiefefanpoaaWalk2
namespace Go.Proofs.Ytpcaiefefanpoaa
open Go.Proofs.Ytpcaiefefanpoaa.Eng
set_option linter.unusedVariables false
set_option linter.unusedSimpArgs false
set_option maxHeartbeats 4000000
set_option maxRecDepth 20000

theorem k_hindcastlaw02_CodecKnown {F : Nat} {r0 : Bool} (h : m_hindcastlaw02_CodecKnown F = some r0) :
    Pf Try.prog 5 [] (fun w => True) (.bool r0) := by
  unfold m_hindcastlaw02_CodecKnown at h
  refine pf_of_wc Try.func5 rfl Try.ntmps5 rfl rfl (fun w0 hR => ?_)
  refine wc_seq ?_
  refine wc_region ?_
  refine wl_pure tt_ok rfl rfl ?_
  refine wl_nil ?_
  refine wx_then ?_
  refine wc_seq ?_
  refine wc_seq ?_
  refine wc_region ?_
  replace h := bsome h; obtain ⟨v12, x12, h⟩ := h
  refine wl_cq Try.call9 rfl rfl rfl (q_pf (k_hindcastlaw02_works x12) (fun _ _ => trivial)) rfl ?_
  refine wl_pure (v := .bool (!v12)) tt_ok rfl rfl ?_
  refine wl_pure tt_ok rfl rfl ?_
  replace h := bsome h; obtain ⟨v17, h, hg17⟩ := h
  refine wl_split (t := 14) rfl (fun hc => ?_) (fun hc => ?_)
  · replace h := ct hc h
    refine wl_skip rfl rfl ?_
    refine wl_skip rfl rfl ?_
    simp only [Option.some.injEq, Prod.mk.injEq] at h
    obtain rfl := h
    have h := hg17; clear hg17
    refine wl_pure (v := .bool true) tt_ok rfl rfl ?_
    refine wl_pure tt_ok rfl rfl ?_
    replace h := bsome h; obtain ⟨v21, h, hg21⟩ := h
    replace h := ct rfl h
    refine wl_skip rfl rfl ?_
    refine wl_skip rfl rfl ?_
    simp only [Option.some.injEq, Prod.mk.injEq] at h
    obtain rfl := h
    have h := hg21; clear hg21
    refine wl_pure (v := .bool true) tt_ok rfl rfl ?_
    refine wl_pure tt_ok rfl rfl ?_
    replace h := bsome h; obtain ⟨v25, h, hg25⟩ := h
    replace h := ct rfl h
    refine wl_skip rfl rfl ?_
    refine wl_skip rfl rfl ?_
    simp only [Option.some.injEq, Prod.mk.injEq] at h
    obtain rfl := h
    have h := hg25; clear hg25
    refine wl_pure (v := .bool true) tt_ok rfl rfl ?_
    refine wl_pure tt_ok rfl rfl ?_
    replace h := bsome h; obtain ⟨v30, h, hg30⟩ := h
    replace h := ct rfl h
    refine wl_skip rfl rfl ?_
    refine wl_skip rfl rfl ?_
    refine wl_skip rfl rfl ?_
    simp only [Option.some.injEq, Prod.mk.injEq] at h
    obtain rfl := h
    have h := hg30; clear hg30
    refine wl_pure (v := .bool true) tt_ok rfl rfl ?_
    refine wl_pure tt_ok rfl rfl ?_
    replace h := bsome h; obtain ⟨v34, h, hg34⟩ := h
    replace h := ct rfl h
    refine wl_skip rfl rfl ?_
    refine wl_skip rfl rfl ?_
    simp only [Option.some.injEq, Prod.mk.injEq] at h
    obtain rfl := h
    have h := hg34; clear hg34
    refine wl_pure (v := .bool true) tt_ok rfl rfl ?_
    refine wl_pure tt_ok rfl rfl ?_
    replace h := bsome h; obtain ⟨v38, h, hg38⟩ := h
    replace h := ct rfl h
    refine wl_skip rfl rfl ?_
    refine wl_skip rfl rfl ?_
    simp only [Option.some.injEq, Prod.mk.injEq] at h
    obtain rfl := h
    have h := hg38; clear hg38
    refine wl_pure (v := .bool true) tt_ok rfl rfl ?_
    refine wl_pure tt_ok rfl rfl ?_
    replace h := bsome h; obtain ⟨v42, h, hg42⟩ := h
    replace h := ct rfl h
    refine wl_skip rfl rfl ?_
    refine wl_skip rfl rfl ?_
    simp only [Option.some.injEq, Prod.mk.injEq] at h
    obtain rfl := h
    have h := hg42; clear hg42
    refine wl_pure (v := .bool true) tt_ok rfl rfl ?_
    refine wl_pure tt_ok rfl rfl ?_
    replace h := bsome h; obtain ⟨v47, h, hg47⟩ := h
    replace h := ct rfl h
    refine wl_skip rfl rfl ?_
    refine wl_skip rfl rfl ?_
    refine wl_skip rfl rfl ?_
    simp only [Option.some.injEq, Prod.mk.injEq] at h
    obtain rfl := h
    have h := hg47; clear hg47
    refine wl_pure (v := .bool true) tt_ok rfl rfl ?_
    refine wl_pure tt_ok rfl rfl ?_
    replace h := bsome h; obtain ⟨v51, h, hg51⟩ := h
    replace h := ct rfl h
    refine wl_skip rfl rfl ?_
    refine wl_skip rfl rfl ?_
    simp only [Option.some.injEq, Prod.mk.injEq] at h
    obtain rfl := h
    have h := hg51; clear hg51
    refine wl_pure (v := .bool true) tt_ok rfl rfl ?_
    refine wl_pure tt_ok rfl rfl ?_
    replace h := bsome h; obtain ⟨v56, h, hg56⟩ := h
    replace h := ct rfl h
    refine wl_skip rfl rfl ?_
    refine wl_skip rfl rfl ?_
    refine wl_skip rfl rfl ?_
    simp only [Option.some.injEq, Prod.mk.injEq] at h
    obtain rfl := h
    have h := hg56; clear hg56
    refine wl_pure (v := .bool true) tt_ok rfl rfl ?_
    refine wl_pure tt_ok rfl rfl ?_
    replace h := bsome h; obtain ⟨v61, h, hg61⟩ := h
    replace h := ct rfl h
    refine wl_skip rfl rfl ?_
    refine wl_skip rfl rfl ?_
    refine wl_skip rfl rfl ?_
    simp only [Option.some.injEq, Prod.mk.injEq] at h
    obtain rfl := h
    have h := hg61; clear hg61
    refine wl_pure (v := .bool true) tt_ok rfl rfl ?_
    refine wl_nil ?_
    refine wx_then ?_
    replace h := ct rfl h
    refine wc_cond_true rfl ?_
    refine wc_seq ?_
    refine wc_region ?_
    refine wl_pure tt_ok rfl rfl ?_
    refine wl_nil ?_
    refine wx_then ?_
    refine wc_ret ?_
    refine wx_then_ret ?_
    simp only [Option.some.injEq] at h
    obtain rfl := h
    exact wx_pf tt_ok (.inl rfl) Try.results5 (Res.tmp rfl Res.nil) rfl
  · replace h := cf hc h
    replace h := bsome h; obtain ⟨v15, x15, h⟩ := h
    refine wl_run rfl ?_
    refine wl_cq Try.call27 rfl rfl rfl (q_pf (k_hindcastlaw02_vars x15) (fun _ _ => trivial)) rfl ?_
    refine wl_run rfl ?_
    refine wl_val (v := .bool (!(v15 == ([0] : List UInt8)))) (val_sne tt_ok rfl rfl) rfl ?_
    simp only [Option.some.injEq, Prod.mk.injEq] at h
    obtain rfl := h
    have h := hg17; clear hg17
    refine wl_pure (v := .bool (!(v15 == ([0] : List UInt8)))) tt_ok rfl rfl ?_
    refine wl_pure tt_ok rfl rfl ?_
    replace h := bsome h; obtain ⟨v21, h, hg21⟩ := h
    refine wl_split (t := 18) rfl (fun hc => ?_) (fun hc => ?_)
    · replace h := ct hc h
      refine wl_skip rfl rfl ?_
      refine wl_skip rfl rfl ?_
      simp only [Option.some.injEq, Prod.mk.injEq] at h
      obtain rfl := h
      have h := hg21; clear hg21
      refine wl_pure (v := .bool true) tt_ok rfl rfl ?_
      refine wl_pure tt_ok rfl rfl ?_
      replace h := bsome h; obtain ⟨v25, h, hg25⟩ := h
      replace h := ct rfl h
      refine wl_skip rfl rfl ?_
      refine wl_skip rfl rfl ?_
      simp only [Option.some.injEq, Prod.mk.injEq] at h
      obtain rfl := h
      have h := hg25; clear hg25
      refine wl_pure (v := .bool true) tt_ok rfl rfl ?_
      refine wl_pure tt_ok rfl rfl ?_
      replace h := bsome h; obtain ⟨v30, h, hg30⟩ := h
      replace h := ct rfl h
      refine wl_skip rfl rfl ?_
      refine wl_skip rfl rfl ?_
      refine wl_skip rfl rfl ?_
      simp only [Option.some.injEq, Prod.mk.injEq] at h
      obtain rfl := h
      have h := hg30; clear hg30
      refine wl_pure (v := .bool true) tt_ok rfl rfl ?_
      refine wl_pure tt_ok rfl rfl ?_
      replace h := bsome h; obtain ⟨v34, h, hg34⟩ := h
      replace h := ct rfl h
      refine wl_skip rfl rfl ?_
      refine wl_skip rfl rfl ?_
      simp only [Option.some.injEq, Prod.mk.injEq] at h
      obtain rfl := h
      have h := hg34; clear hg34
      refine wl_pure (v := .bool true) tt_ok rfl rfl ?_
      refine wl_pure tt_ok rfl rfl ?_
      replace h := bsome h; obtain ⟨v38, h, hg38⟩ := h
      replace h := ct rfl h
      refine wl_skip rfl rfl ?_
      refine wl_skip rfl rfl ?_
      simp only [Option.some.injEq, Prod.mk.injEq] at h
      obtain rfl := h
      have h := hg38; clear hg38
      refine wl_pure (v := .bool true) tt_ok rfl rfl ?_
      refine wl_pure tt_ok rfl rfl ?_
      replace h := bsome h; obtain ⟨v42, h, hg42⟩ := h
      replace h := ct rfl h
      refine wl_skip rfl rfl ?_
      refine wl_skip rfl rfl ?_
      simp only [Option.some.injEq, Prod.mk.injEq] at h
      obtain rfl := h
      have h := hg42; clear hg42
      refine wl_pure (v := .bool true) tt_ok rfl rfl ?_
      refine wl_pure tt_ok rfl rfl ?_
      replace h := bsome h; obtain ⟨v47, h, hg47⟩ := h
      replace h := ct rfl h
      refine wl_skip rfl rfl ?_
      refine wl_skip rfl rfl ?_
      refine wl_skip rfl rfl ?_
      simp only [Option.some.injEq, Prod.mk.injEq] at h
      obtain rfl := h
      have h := hg47; clear hg47
      refine wl_pure (v := .bool true) tt_ok rfl rfl ?_
      refine wl_pure tt_ok rfl rfl ?_
      replace h := bsome h; obtain ⟨v51, h, hg51⟩ := h
      replace h := ct rfl h
      refine wl_skip rfl rfl ?_
      refine wl_skip rfl rfl ?_
      simp only [Option.some.injEq, Prod.mk.injEq] at h
      obtain rfl := h
      have h := hg51; clear hg51
      refine wl_pure (v := .bool true) tt_ok rfl rfl ?_
      refine wl_pure tt_ok rfl rfl ?_
      replace h := bsome h; obtain ⟨v56, h, hg56⟩ := h
      replace h := ct rfl h
      refine wl_skip rfl rfl ?_
      refine wl_skip rfl rfl ?_
      refine wl_skip rfl rfl ?_
      simp only [Option.some.injEq, Prod.mk.injEq] at h
      obtain rfl := h
      have h := hg56; clear hg56
      refine wl_pure (v := .bool true) tt_ok rfl rfl ?_
      refine wl_pure tt_ok rfl rfl ?_
      replace h := bsome h; obtain ⟨v61, h, hg61⟩ := h
      replace h := ct rfl h
      refine wl_skip rfl rfl ?_
      refine wl_skip rfl rfl ?_
      refine wl_skip rfl rfl ?_
      simp only [Option.some.injEq, Prod.mk.injEq] at h
      obtain rfl := h
      have h := hg61; clear hg61
      refine wl_pure (v := .bool true) tt_ok rfl rfl ?_
      refine wl_nil ?_
      refine wx_then ?_
      replace h := ct rfl h
      refine wc_cond_true rfl ?_
      refine wc_seq ?_
      refine wc_region ?_
      refine wl_pure tt_ok rfl rfl ?_
      refine wl_nil ?_
      refine wx_then ?_
      refine wc_ret ?_
      refine wx_then_ret ?_
      simp only [Option.some.injEq] at h
      obtain rfl := h
      exact wx_pf tt_ok (.inl rfl) Try.results5 (Res.tmp rfl Res.nil) rfl
    · replace h := cf hc h
      replace h := bsome h; obtain ⟨v19, x19, h⟩ := h
      refine wl_run rfl ?_
      refine wl_cq Try.call27 rfl rfl rfl (q_pf (k_hindcastlaw02_vars x19) (fun _ _ => trivial)) rfl ?_
      refine wl_run rfl ?_
      refine wl_val (v := .bool (!(v19 == ([127] : List UInt8)))) (val_sne tt_ok rfl rfl) rfl ?_
      simp only [Option.some.injEq, Prod.mk.injEq] at h
      obtain rfl := h
      have h := hg21; clear hg21
      refine wl_pure (v := .bool (!(v19 == ([127] : List UInt8)))) tt_ok rfl rfl ?_
      refine wl_pure tt_ok rfl rfl ?_
      replace h := bsome h; obtain ⟨v25, h, hg25⟩ := h
      refine wl_split (t := 22) rfl (fun hc => ?_) (fun hc => ?_)
      · replace h := ct hc h
        refine wl_skip rfl rfl ?_
        refine wl_skip rfl rfl ?_
        simp only [Option.some.injEq, Prod.mk.injEq] at h
        obtain rfl := h
        have h := hg25; clear hg25
        refine wl_pure (v := .bool true) tt_ok rfl rfl ?_
        refine wl_pure tt_ok rfl rfl ?_
        replace h := bsome h; obtain ⟨v30, h, hg30⟩ := h
        replace h := ct rfl h
        refine wl_skip rfl rfl ?_
        refine wl_skip rfl rfl ?_
        refine wl_skip rfl rfl ?_
        simp only [Option.some.injEq, Prod.mk.injEq] at h
        obtain rfl := h
        have h := hg30; clear hg30
        refine wl_pure (v := .bool true) tt_ok rfl rfl ?_
        refine wl_pure tt_ok rfl rfl ?_
        replace h := bsome h; obtain ⟨v34, h, hg34⟩ := h
        replace h := ct rfl h
        refine wl_skip rfl rfl ?_
        refine wl_skip rfl rfl ?_
        simp only [Option.some.injEq, Prod.mk.injEq] at h
        obtain rfl := h
        have h := hg34; clear hg34
        refine wl_pure (v := .bool true) tt_ok rfl rfl ?_
        refine wl_pure tt_ok rfl rfl ?_
        replace h := bsome h; obtain ⟨v38, h, hg38⟩ := h
        replace h := ct rfl h
        refine wl_skip rfl rfl ?_
        refine wl_skip rfl rfl ?_
        simp only [Option.some.injEq, Prod.mk.injEq] at h
        obtain rfl := h
        have h := hg38; clear hg38
        refine wl_pure (v := .bool true) tt_ok rfl rfl ?_
        refine wl_pure tt_ok rfl rfl ?_
        replace h := bsome h; obtain ⟨v42, h, hg42⟩ := h
        replace h := ct rfl h
        refine wl_skip rfl rfl ?_
        refine wl_skip rfl rfl ?_
        simp only [Option.some.injEq, Prod.mk.injEq] at h
        obtain rfl := h
        have h := hg42; clear hg42
        refine wl_pure (v := .bool true) tt_ok rfl rfl ?_
        refine wl_pure tt_ok rfl rfl ?_
        replace h := bsome h; obtain ⟨v47, h, hg47⟩ := h
        replace h := ct rfl h
        refine wl_skip rfl rfl ?_
        refine wl_skip rfl rfl ?_
        refine wl_skip rfl rfl ?_
        simp only [Option.some.injEq, Prod.mk.injEq] at h
        obtain rfl := h
        have h := hg47; clear hg47
        refine wl_pure (v := .bool true) tt_ok rfl rfl ?_
        refine wl_pure tt_ok rfl rfl ?_
        replace h := bsome h; obtain ⟨v51, h, hg51⟩ := h
        replace h := ct rfl h
        refine wl_skip rfl rfl ?_
        refine wl_skip rfl rfl ?_
        simp only [Option.some.injEq, Prod.mk.injEq] at h
        obtain rfl := h
        have h := hg51; clear hg51
        refine wl_pure (v := .bool true) tt_ok rfl rfl ?_
        refine wl_pure tt_ok rfl rfl ?_
        replace h := bsome h; obtain ⟨v56, h, hg56⟩ := h
        replace h := ct rfl h
        refine wl_skip rfl rfl ?_
        refine wl_skip rfl rfl ?_
        refine wl_skip rfl rfl ?_
        simp only [Option.some.injEq, Prod.mk.injEq] at h
        obtain rfl := h
        have h := hg56; clear hg56
        refine wl_pure (v := .bool true) tt_ok rfl rfl ?_
        refine wl_pure tt_ok rfl rfl ?_
        replace h := bsome h; obtain ⟨v61, h, hg61⟩ := h
        replace h := ct rfl h
        refine wl_skip rfl rfl ?_
        refine wl_skip rfl rfl ?_
        refine wl_skip rfl rfl ?_
        simp only [Option.some.injEq, Prod.mk.injEq] at h
        obtain rfl := h
        have h := hg61; clear hg61
        refine wl_pure (v := .bool true) tt_ok rfl rfl ?_
        refine wl_nil ?_
        refine wx_then ?_
        replace h := ct rfl h
        refine wc_cond_true rfl ?_
        refine wc_seq ?_
        refine wc_region ?_
        refine wl_pure tt_ok rfl rfl ?_
        refine wl_nil ?_
        refine wx_then ?_
        refine wc_ret ?_
        refine wx_then_ret ?_
        simp only [Option.some.injEq] at h
        obtain rfl := h
        exact wx_pf tt_ok (.inl rfl) Try.results5 (Res.tmp rfl Res.nil) rfl
      · replace h := cf hc h
        replace h := bsome h; obtain ⟨v23, x23, h⟩ := h
        refine wl_run rfl ?_
        refine wl_cq Try.call27 rfl rfl rfl (q_pf (k_hindcastlaw02_vars x23) (fun _ _ => trivial)) rfl ?_
        refine wl_run rfl ?_
        refine wl_val (v := .bool (!(v23 == ([128, 1] : List UInt8)))) (val_sne tt_ok rfl rfl) rfl ?_
        simp only [Option.some.injEq, Prod.mk.injEq] at h
        obtain rfl := h
        have h := hg25; clear hg25
        refine wl_pure (v := .bool (!(v23 == ([128, 1] : List UInt8)))) tt_ok rfl rfl ?_
        refine wl_pure tt_ok rfl rfl ?_
        replace h := bsome h; obtain ⟨v30, h, hg30⟩ := h
        refine wl_split (t := 26) rfl (fun hc => ?_) (fun hc => ?_)
        · replace h := ct hc h
          refine wl_skip rfl rfl ?_
          refine wl_skip rfl rfl ?_
          refine wl_skip rfl rfl ?_
          simp only [Option.some.injEq, Prod.mk.injEq] at h
          obtain rfl := h
          have h := hg30; clear hg30
          refine wl_pure (v := .bool true) tt_ok rfl rfl ?_
          refine wl_pure tt_ok rfl rfl ?_
          replace h := bsome h; obtain ⟨v34, h, hg34⟩ := h
          replace h := ct rfl h
          refine wl_skip rfl rfl ?_
          refine wl_skip rfl rfl ?_
          simp only [Option.some.injEq, Prod.mk.injEq] at h
          obtain rfl := h
          have h := hg34; clear hg34
          refine wl_pure (v := .bool true) tt_ok rfl rfl ?_
          refine wl_pure tt_ok rfl rfl ?_
          replace h := bsome h; obtain ⟨v38, h, hg38⟩ := h
          replace h := ct rfl h
          refine wl_skip rfl rfl ?_
          refine wl_skip rfl rfl ?_
          simp only [Option.some.injEq, Prod.mk.injEq] at h
          obtain rfl := h
          have h := hg38; clear hg38
          refine wl_pure (v := .bool true) tt_ok rfl rfl ?_
          refine wl_pure tt_ok rfl rfl ?_
          replace h := bsome h; obtain ⟨v42, h, hg42⟩ := h
          replace h := ct rfl h
          refine wl_skip rfl rfl ?_
          refine wl_skip rfl rfl ?_
          simp only [Option.some.injEq, Prod.mk.injEq] at h
          obtain rfl := h
          have h := hg42; clear hg42
          refine wl_pure (v := .bool true) tt_ok rfl rfl ?_
          refine wl_pure tt_ok rfl rfl ?_
          replace h := bsome h; obtain ⟨v47, h, hg47⟩ := h
          replace h := ct rfl h
          refine wl_skip rfl rfl ?_
          refine wl_skip rfl rfl ?_
          refine wl_skip rfl rfl ?_
          simp only [Option.some.injEq, Prod.mk.injEq] at h
          obtain rfl := h
          have h := hg47; clear hg47
          refine wl_pure (v := .bool true) tt_ok rfl rfl ?_
          refine wl_pure tt_ok rfl rfl ?_
          replace h := bsome h; obtain ⟨v51, h, hg51⟩ := h
          replace h := ct rfl h
          refine wl_skip rfl rfl ?_
          refine wl_skip rfl rfl ?_
          simp only [Option.some.injEq, Prod.mk.injEq] at h
          obtain rfl := h
          have h := hg51; clear hg51
          refine wl_pure (v := .bool true) tt_ok rfl rfl ?_
          refine wl_pure tt_ok rfl rfl ?_
          replace h := bsome h; obtain ⟨v56, h, hg56⟩ := h
          replace h := ct rfl h
          refine wl_skip rfl rfl ?_
          refine wl_skip rfl rfl ?_
          refine wl_skip rfl rfl ?_
          simp only [Option.some.injEq, Prod.mk.injEq] at h
          obtain rfl := h
          have h := hg56; clear hg56
          refine wl_pure (v := .bool true) tt_ok rfl rfl ?_
          refine wl_pure tt_ok rfl rfl ?_
          replace h := bsome h; obtain ⟨v61, h, hg61⟩ := h
          replace h := ct rfl h
          refine wl_skip rfl rfl ?_
          refine wl_skip rfl rfl ?_
          refine wl_skip rfl rfl ?_
          simp only [Option.some.injEq, Prod.mk.injEq] at h
          obtain rfl := h
          have h := hg61; clear hg61
          refine wl_pure (v := .bool true) tt_ok rfl rfl ?_
          refine wl_nil ?_
          refine wx_then ?_
          replace h := ct rfl h
          refine wc_cond_true rfl ?_
          refine wc_seq ?_
          refine wc_region ?_
          refine wl_pure tt_ok rfl rfl ?_
          refine wl_nil ?_
          refine wx_then ?_
          refine wc_ret ?_
          refine wx_then_ret ?_
          simp only [Option.some.injEq] at h
          obtain rfl := h
          exact wx_pf tt_ok (.inl rfl) Try.results5 (Res.tmp rfl Res.nil) rfl
        · replace h := cf hc h
          replace h := bsome h; obtain ⟨v27, x27, h⟩ := h
          refine wl_run rfl ?_
          refine wl_cq Try.call27 rfl rfl rfl (q_pf (k_hindcastlaw02_vars x27) (fun _ _ => trivial)) rfl ?_
          replace h := bsome h; obtain ⟨v28, x28, h⟩ := h
          refine wl_run rfl ?_
          refine wl_cq Try.call28 rfl rfl rfl (q_pf (k_hindcastlaw02_nines x28) (fun _ _ => trivial)) rfl ?_
          refine wl_run rfl ?_
          refine wl_val (v := .bool (!(v27 == v28))) (val_sne tt_ok rfl rfl) rfl ?_
          simp only [Option.some.injEq, Prod.mk.injEq] at h
          obtain rfl := h
          have h := hg30; clear hg30
          refine wl_pure (v := .bool (!(v27 == v28))) tt_ok rfl rfl ?_
          refine wl_pure tt_ok rfl rfl ?_
          replace h := bsome h; obtain ⟨v34, h, hg34⟩ := h
          refine wl_split (t := 31) rfl (fun hc => ?_) (fun hc => ?_)
          · replace h := ct hc h
            refine wl_skip rfl rfl ?_
            refine wl_skip rfl rfl ?_
            simp only [Option.some.injEq, Prod.mk.injEq] at h
            obtain rfl := h
            have h := hg34; clear hg34
            refine wl_pure (v := .bool true) tt_ok rfl rfl ?_
            refine wl_pure tt_ok rfl rfl ?_
            replace h := bsome h; obtain ⟨v38, h, hg38⟩ := h
            replace h := ct rfl h
            refine wl_skip rfl rfl ?_
            refine wl_skip rfl rfl ?_
            simp only [Option.some.injEq, Prod.mk.injEq] at h
            obtain rfl := h
            have h := hg38; clear hg38
            refine wl_pure (v := .bool true) tt_ok rfl rfl ?_
            refine wl_pure tt_ok rfl rfl ?_
            replace h := bsome h; obtain ⟨v42, h, hg42⟩ := h
            replace h := ct rfl h
            refine wl_skip rfl rfl ?_
            refine wl_skip rfl rfl ?_
            simp only [Option.some.injEq, Prod.mk.injEq] at h
            obtain rfl := h
            have h := hg42; clear hg42
            refine wl_pure (v := .bool true) tt_ok rfl rfl ?_
            refine wl_pure tt_ok rfl rfl ?_
            replace h := bsome h; obtain ⟨v47, h, hg47⟩ := h
            replace h := ct rfl h
            refine wl_skip rfl rfl ?_
            refine wl_skip rfl rfl ?_
            refine wl_skip rfl rfl ?_
            simp only [Option.some.injEq, Prod.mk.injEq] at h
            obtain rfl := h
            have h := hg47; clear hg47
            refine wl_pure (v := .bool true) tt_ok rfl rfl ?_
            refine wl_pure tt_ok rfl rfl ?_
            replace h := bsome h; obtain ⟨v51, h, hg51⟩ := h
            replace h := ct rfl h
            refine wl_skip rfl rfl ?_
            refine wl_skip rfl rfl ?_
            simp only [Option.some.injEq, Prod.mk.injEq] at h
            obtain rfl := h
            have h := hg51; clear hg51
            refine wl_pure (v := .bool true) tt_ok rfl rfl ?_
            refine wl_pure tt_ok rfl rfl ?_
            replace h := bsome h; obtain ⟨v56, h, hg56⟩ := h
            replace h := ct rfl h
            refine wl_skip rfl rfl ?_
            refine wl_skip rfl rfl ?_
            refine wl_skip rfl rfl ?_
            simp only [Option.some.injEq, Prod.mk.injEq] at h
            obtain rfl := h
            have h := hg56; clear hg56
            refine wl_pure (v := .bool true) tt_ok rfl rfl ?_
            refine wl_pure tt_ok rfl rfl ?_
            replace h := bsome h; obtain ⟨v61, h, hg61⟩ := h
            replace h := ct rfl h
            refine wl_skip rfl rfl ?_
            refine wl_skip rfl rfl ?_
            refine wl_skip rfl rfl ?_
            simp only [Option.some.injEq, Prod.mk.injEq] at h
            obtain rfl := h
            have h := hg61; clear hg61
            refine wl_pure (v := .bool true) tt_ok rfl rfl ?_
            refine wl_nil ?_
            refine wx_then ?_
            replace h := ct rfl h
            refine wc_cond_true rfl ?_
            refine wc_seq ?_
            refine wc_region ?_
            refine wl_pure tt_ok rfl rfl ?_
            refine wl_nil ?_
            refine wx_then ?_
            refine wc_ret ?_
            refine wx_then_ret ?_
            simp only [Option.some.injEq] at h
            obtain rfl := h
            exact wx_pf tt_ok (.inl rfl) Try.results5 (Res.tmp rfl Res.nil) rfl
          · replace h := cf hc h
            replace h := bsome h; obtain ⟨v32, x32, h⟩ := h
            refine wl_run rfl ?_
            refine wl_cq Try.call29 rfl rfl rfl (q_pf (k_hindcastlaw02_reads x32) (fun _ _ => trivial)) rfl ?_
            refine wl_run rfl ?_
            refine wl_pure (v := .bool (!v32)) tt_ok rfl rfl ?_
            simp only [Option.some.injEq, Prod.mk.injEq] at h
            obtain rfl := h
            have h := hg34; clear hg34
            refine wl_pure (v := .bool (!v32)) tt_ok rfl rfl ?_
            refine wl_pure tt_ok rfl rfl ?_
            replace h := bsome h; obtain ⟨v38, h, hg38⟩ := h
            refine wl_split (t := 35) rfl (fun hc => ?_) (fun hc => ?_)
            · replace h := ct hc h
              refine wl_skip rfl rfl ?_
              refine wl_skip rfl rfl ?_
              simp only [Option.some.injEq, Prod.mk.injEq] at h
              obtain rfl := h
              have h := hg38; clear hg38
              refine wl_pure (v := .bool true) tt_ok rfl rfl ?_
              refine wl_pure tt_ok rfl rfl ?_
              replace h := bsome h; obtain ⟨v42, h, hg42⟩ := h
              replace h := ct rfl h
              refine wl_skip rfl rfl ?_
              refine wl_skip rfl rfl ?_
              simp only [Option.some.injEq, Prod.mk.injEq] at h
              obtain rfl := h
              have h := hg42; clear hg42
              refine wl_pure (v := .bool true) tt_ok rfl rfl ?_
              refine wl_pure tt_ok rfl rfl ?_
              replace h := bsome h; obtain ⟨v47, h, hg47⟩ := h
              replace h := ct rfl h
              refine wl_skip rfl rfl ?_
              refine wl_skip rfl rfl ?_
              refine wl_skip rfl rfl ?_
              simp only [Option.some.injEq, Prod.mk.injEq] at h
              obtain rfl := h
              have h := hg47; clear hg47
              refine wl_pure (v := .bool true) tt_ok rfl rfl ?_
              refine wl_pure tt_ok rfl rfl ?_
              replace h := bsome h; obtain ⟨v51, h, hg51⟩ := h
              replace h := ct rfl h
              refine wl_skip rfl rfl ?_
              refine wl_skip rfl rfl ?_
              simp only [Option.some.injEq, Prod.mk.injEq] at h
              obtain rfl := h
              have h := hg51; clear hg51
              refine wl_pure (v := .bool true) tt_ok rfl rfl ?_
              refine wl_pure tt_ok rfl rfl ?_
              replace h := bsome h; obtain ⟨v56, h, hg56⟩ := h
              replace h := ct rfl h
              refine wl_skip rfl rfl ?_
              refine wl_skip rfl rfl ?_
              refine wl_skip rfl rfl ?_
              simp only [Option.some.injEq, Prod.mk.injEq] at h
              obtain rfl := h
              have h := hg56; clear hg56
              refine wl_pure (v := .bool true) tt_ok rfl rfl ?_
              refine wl_pure tt_ok rfl rfl ?_
              replace h := bsome h; obtain ⟨v61, h, hg61⟩ := h
              replace h := ct rfl h
              refine wl_skip rfl rfl ?_
              refine wl_skip rfl rfl ?_
              refine wl_skip rfl rfl ?_
              simp only [Option.some.injEq, Prod.mk.injEq] at h
              obtain rfl := h
              have h := hg61; clear hg61
              refine wl_pure (v := .bool true) tt_ok rfl rfl ?_
              refine wl_nil ?_
              refine wx_then ?_
              replace h := ct rfl h
              refine wc_cond_true rfl ?_
              refine wc_seq ?_
              refine wc_region ?_
              refine wl_pure tt_ok rfl rfl ?_
              refine wl_nil ?_
              refine wx_then ?_
              refine wc_ret ?_
              refine wx_then_ret ?_
              simp only [Option.some.injEq] at h
              obtain rfl := h
              exact wx_pf tt_ok (.inl rfl) Try.results5 (Res.tmp rfl Res.nil) rfl
            · replace h := cf hc h
              replace h := bsome h; obtain ⟨v36, x36, h⟩ := h
              refine wl_run rfl ?_
              refine wl_cq Try.call29 rfl rfl rfl (q_pf (k_hindcastlaw02_reads x36) (fun _ _ => trivial)) rfl ?_
              refine wl_run rfl ?_
              refine wl_pure (v := .bool (!v36)) tt_ok rfl rfl ?_
              simp only [Option.some.injEq, Prod.mk.injEq] at h
              obtain rfl := h
              have h := hg38; clear hg38
              refine wl_pure (v := .bool (!v36)) tt_ok rfl rfl ?_
              refine wl_pure tt_ok rfl rfl ?_
              replace h := bsome h; obtain ⟨v42, h, hg42⟩ := h
              refine wl_split (t := 39) rfl (fun hc => ?_) (fun hc => ?_)
              · replace h := ct hc h
                refine wl_skip rfl rfl ?_
                refine wl_skip rfl rfl ?_
                simp only [Option.some.injEq, Prod.mk.injEq] at h
                obtain rfl := h
                have h := hg42; clear hg42
                refine wl_pure (v := .bool true) tt_ok rfl rfl ?_
                refine wl_pure tt_ok rfl rfl ?_
                replace h := bsome h; obtain ⟨v47, h, hg47⟩ := h
                replace h := ct rfl h
                refine wl_skip rfl rfl ?_
                refine wl_skip rfl rfl ?_
                refine wl_skip rfl rfl ?_
                simp only [Option.some.injEq, Prod.mk.injEq] at h
                obtain rfl := h
                have h := hg47; clear hg47
                refine wl_pure (v := .bool true) tt_ok rfl rfl ?_
                refine wl_pure tt_ok rfl rfl ?_
                replace h := bsome h; obtain ⟨v51, h, hg51⟩ := h
                replace h := ct rfl h
                refine wl_skip rfl rfl ?_
                refine wl_skip rfl rfl ?_
                simp only [Option.some.injEq, Prod.mk.injEq] at h
                obtain rfl := h
                have h := hg51; clear hg51
                refine wl_pure (v := .bool true) tt_ok rfl rfl ?_
                refine wl_pure tt_ok rfl rfl ?_
                replace h := bsome h; obtain ⟨v56, h, hg56⟩ := h
                replace h := ct rfl h
                refine wl_skip rfl rfl ?_
                refine wl_skip rfl rfl ?_
                refine wl_skip rfl rfl ?_
                simp only [Option.some.injEq, Prod.mk.injEq] at h
                obtain rfl := h
                have h := hg56; clear hg56
                refine wl_pure (v := .bool true) tt_ok rfl rfl ?_
                refine wl_pure tt_ok rfl rfl ?_
                replace h := bsome h; obtain ⟨v61, h, hg61⟩ := h
                replace h := ct rfl h
                refine wl_skip rfl rfl ?_
                refine wl_skip rfl rfl ?_
                refine wl_skip rfl rfl ?_
                simp only [Option.some.injEq, Prod.mk.injEq] at h
                obtain rfl := h
                have h := hg61; clear hg61
                refine wl_pure (v := .bool true) tt_ok rfl rfl ?_
                refine wl_nil ?_
                refine wx_then ?_
                replace h := ct rfl h
                refine wc_cond_true rfl ?_
                refine wc_seq ?_
                refine wc_region ?_
                refine wl_pure tt_ok rfl rfl ?_
                refine wl_nil ?_
                refine wx_then ?_
                refine wc_ret ?_
                refine wx_then_ret ?_
                simp only [Option.some.injEq] at h
                obtain rfl := h
                exact wx_pf tt_ok (.inl rfl) Try.results5 (Res.tmp rfl Res.nil) rfl
              · replace h := cf hc h
                replace h := bsome h; obtain ⟨v40, x40, h⟩ := h
                refine wl_run rfl ?_
                refine wl_cq Try.call29 rfl rfl rfl (q_pf (k_hindcastlaw02_reads x40) (fun _ _ => trivial)) rfl ?_
                refine wl_run rfl ?_
                refine wl_pure (v := .bool (!v40)) tt_ok rfl rfl ?_
                simp only [Option.some.injEq, Prod.mk.injEq] at h
                obtain rfl := h
                have h := hg42; clear hg42
                refine wl_pure (v := .bool (!v40)) tt_ok rfl rfl ?_
                refine wl_pure tt_ok rfl rfl ?_
                replace h := bsome h; obtain ⟨v47, h, hg47⟩ := h
                refine wl_split (t := 43) rfl (fun hc => ?_) (fun hc => ?_)
                · replace h := ct hc h
                  refine wl_skip rfl rfl ?_
                  refine wl_skip rfl rfl ?_
                  refine wl_skip rfl rfl ?_
                  simp only [Option.some.injEq, Prod.mk.injEq] at h
                  obtain rfl := h
                  have h := hg47; clear hg47
                  refine wl_pure (v := .bool true) tt_ok rfl rfl ?_
                  refine wl_pure tt_ok rfl rfl ?_
                  replace h := bsome h; obtain ⟨v51, h, hg51⟩ := h
                  replace h := ct rfl h
                  refine wl_skip rfl rfl ?_
                  refine wl_skip rfl rfl ?_
                  simp only [Option.some.injEq, Prod.mk.injEq] at h
                  obtain rfl := h
                  have h := hg51; clear hg51
                  refine wl_pure (v := .bool true) tt_ok rfl rfl ?_
                  refine wl_pure tt_ok rfl rfl ?_
                  replace h := bsome h; obtain ⟨v56, h, hg56⟩ := h
                  replace h := ct rfl h
                  refine wl_skip rfl rfl ?_
                  refine wl_skip rfl rfl ?_
                  refine wl_skip rfl rfl ?_
                  simp only [Option.some.injEq, Prod.mk.injEq] at h
                  obtain rfl := h
                  have h := hg56; clear hg56
                  refine wl_pure (v := .bool true) tt_ok rfl rfl ?_
                  refine wl_pure tt_ok rfl rfl ?_
                  replace h := bsome h; obtain ⟨v61, h, hg61⟩ := h
                  replace h := ct rfl h
                  refine wl_skip rfl rfl ?_
                  refine wl_skip rfl rfl ?_
                  refine wl_skip rfl rfl ?_
                  simp only [Option.some.injEq, Prod.mk.injEq] at h
                  obtain rfl := h
                  have h := hg61; clear hg61
                  refine wl_pure (v := .bool true) tt_ok rfl rfl ?_
                  refine wl_nil ?_
                  refine wx_then ?_
                  replace h := ct rfl h
                  refine wc_cond_true rfl ?_
                  refine wc_seq ?_
                  refine wc_region ?_
                  refine wl_pure tt_ok rfl rfl ?_
                  refine wl_nil ?_
                  refine wx_then ?_
                  refine wc_ret ?_
                  refine wx_then_ret ?_
                  simp only [Option.some.injEq] at h
                  obtain rfl := h
                  exact wx_pf tt_ok (.inl rfl) Try.results5 (Res.tmp rfl Res.nil) rfl
                · replace h := cf hc h
                  replace h := bsome h; obtain ⟨v44, x44, h⟩ := h
                  refine wl_run rfl ?_
                  refine wl_cq Try.call28 rfl rfl rfl (q_pf (k_hindcastlaw02_nines x44) (fun _ _ => trivial)) rfl ?_
                  replace h := bsome h; obtain ⟨v45, x45, h⟩ := h
                  refine wl_run rfl ?_
                  refine wl_cq Try.call29 rfl rfl rfl (q_pf (k_hindcastlaw02_reads x45) (fun _ _ => trivial)) rfl ?_
                  refine wl_run rfl ?_
                  refine wl_pure (v := .bool (!v45)) tt_ok rfl rfl ?_
                  simp only [Option.some.injEq, Prod.mk.injEq] at h
                  obtain rfl := h
                  have h := hg47; clear hg47
                  refine wl_pure (v := .bool (!v45)) tt_ok rfl rfl ?_
                  refine wl_pure tt_ok rfl rfl ?_
                  replace h := bsome h; obtain ⟨v51, h, hg51⟩ := h
                  refine wl_split (t := 48) rfl (fun hc => ?_) (fun hc => ?_)
                  · replace h := ct hc h
                    refine wl_skip rfl rfl ?_
                    refine wl_skip rfl rfl ?_
                    simp only [Option.some.injEq, Prod.mk.injEq] at h
                    obtain rfl := h
                    have h := hg51; clear hg51
                    refine wl_pure (v := .bool true) tt_ok rfl rfl ?_
                    refine wl_pure tt_ok rfl rfl ?_
                    replace h := bsome h; obtain ⟨v56, h, hg56⟩ := h
                    replace h := ct rfl h
                    refine wl_skip rfl rfl ?_
                    refine wl_skip rfl rfl ?_
                    refine wl_skip rfl rfl ?_
                    simp only [Option.some.injEq, Prod.mk.injEq] at h
                    obtain rfl := h
                    have h := hg56; clear hg56
                    refine wl_pure (v := .bool true) tt_ok rfl rfl ?_
                    refine wl_pure tt_ok rfl rfl ?_
                    replace h := bsome h; obtain ⟨v61, h, hg61⟩ := h
                    replace h := ct rfl h
                    refine wl_skip rfl rfl ?_
                    refine wl_skip rfl rfl ?_
                    refine wl_skip rfl rfl ?_
                    simp only [Option.some.injEq, Prod.mk.injEq] at h
                    obtain rfl := h
                    have h := hg61; clear hg61
                    refine wl_pure (v := .bool true) tt_ok rfl rfl ?_
                    refine wl_nil ?_
                    refine wx_then ?_
                    replace h := ct rfl h
                    refine wc_cond_true rfl ?_
                    refine wc_seq ?_
                    refine wc_region ?_
                    refine wl_pure tt_ok rfl rfl ?_
                    refine wl_nil ?_
                    refine wx_then ?_
                    refine wc_ret ?_
                    refine wx_then_ret ?_
                    simp only [Option.some.injEq] at h
                    obtain rfl := h
                    exact wx_pf tt_ok (.inl rfl) Try.results5 (Res.tmp rfl Res.nil) rfl
                  · replace h := cf hc h
                    replace h := bsome h; obtain ⟨v49, x49, h⟩ := h
                    refine wl_run rfl ?_
                    refine wl_cq Try.call29 rfl rfl rfl (q_pf (k_hindcastlaw02_reads x49) (fun _ _ => trivial)) rfl ?_
                    refine wl_run rfl ?_
                    refine wl_pure (v := .bool (!v49)) tt_ok rfl rfl ?_
                    simp only [Option.some.injEq, Prod.mk.injEq] at h
                    obtain rfl := h
                    have h := hg51; clear hg51
                    refine wl_pure (v := .bool (!v49)) tt_ok rfl rfl ?_
                    refine wl_pure tt_ok rfl rfl ?_
                    replace h := bsome h; obtain ⟨v56, h, hg56⟩ := h
                    refine wl_split (t := 52) rfl (fun hc => ?_) (fun hc => ?_)
                    · replace h := ct hc h
                      refine wl_skip rfl rfl ?_
                      refine wl_skip rfl rfl ?_
                      refine wl_skip rfl rfl ?_
                      simp only [Option.some.injEq, Prod.mk.injEq] at h
                      obtain rfl := h
                      have h := hg56; clear hg56
                      refine wl_pure (v := .bool true) tt_ok rfl rfl ?_
                      refine wl_pure tt_ok rfl rfl ?_
                      replace h := bsome h; obtain ⟨v61, h, hg61⟩ := h
                      replace h := ct rfl h
                      refine wl_skip rfl rfl ?_
                      refine wl_skip rfl rfl ?_
                      refine wl_skip rfl rfl ?_
                      simp only [Option.some.injEq, Prod.mk.injEq] at h
                      obtain rfl := h
                      have h := hg61; clear hg61
                      refine wl_pure (v := .bool true) tt_ok rfl rfl ?_
                      refine wl_nil ?_
                      refine wx_then ?_
                      replace h := ct rfl h
                      refine wc_cond_true rfl ?_
                      refine wc_seq ?_
                      refine wc_region ?_
                      refine wl_pure tt_ok rfl rfl ?_
                      refine wl_nil ?_
                      refine wx_then ?_
                      refine wc_ret ?_
                      refine wx_then_ret ?_
                      simp only [Option.some.injEq] at h
                      obtain rfl := h
                      exact wx_pf tt_ok (.inl rfl) Try.results5 (Res.tmp rfl Res.nil) rfl
                    · replace h := cf hc h
                      replace h := bsome h; obtain ⟨v53, x53, h⟩ := h
                      refine wl_run rfl ?_
                      refine wl_cq Try.call28 rfl rfl rfl (q_pf (k_hindcastlaw02_nines x53) (fun _ _ => trivial)) rfl ?_
                      replace h := bsome h; obtain ⟨v54, x54, h⟩ := h
                      refine wl_run rfl ?_
                      refine wl_cq Try.call29 rfl rfl rfl (q_pf (k_hindcastlaw02_reads x54) (fun _ _ => trivial)) rfl ?_
                      refine wl_run rfl ?_
                      refine wl_pure (v := .bool (!v54)) tt_ok rfl rfl ?_
                      simp only [Option.some.injEq, Prod.mk.injEq] at h
                      obtain rfl := h
                      have h := hg56; clear hg56
                      refine wl_pure (v := .bool (!v54)) tt_ok rfl rfl ?_
                      refine wl_pure tt_ok rfl rfl ?_
                      replace h := bsome h; obtain ⟨v61, h, hg61⟩ := h
                      refine wl_split (t := 57) rfl (fun hc => ?_) (fun hc => ?_)
                      · replace h := ct hc h
                        refine wl_skip rfl rfl ?_
                        refine wl_skip rfl rfl ?_
                        refine wl_skip rfl rfl ?_
                        simp only [Option.some.injEq, Prod.mk.injEq] at h
                        obtain rfl := h
                        have h := hg61; clear hg61
                        refine wl_pure (v := .bool true) tt_ok rfl rfl ?_
                        refine wl_nil ?_
                        refine wx_then ?_
                        replace h := ct rfl h
                        refine wc_cond_true rfl ?_
                        refine wc_seq ?_
                        refine wc_region ?_
                        refine wl_pure tt_ok rfl rfl ?_
                        refine wl_nil ?_
                        refine wx_then ?_
                        refine wc_ret ?_
                        refine wx_then_ret ?_
                        simp only [Option.some.injEq] at h
                        obtain rfl := h
                        exact wx_pf tt_ok (.inl rfl) Try.results5 (Res.tmp rfl Res.nil) rfl
                      · replace h := cf hc h
                        replace h := bsome h; obtain ⟨v58, x58, h⟩ := h
                        refine wl_run rfl ?_
                        refine wl_cq Try.call28 rfl rfl rfl (q_pf (k_hindcastlaw02_nines x58) (fun _ _ => trivial)) rfl ?_
                        replace h := bsome h; obtain ⟨v59, x59, h⟩ := h
                        refine wl_run rfl ?_
                        refine wl_cq Try.call29 rfl rfl rfl (q_pf (k_hindcastlaw02_reads x59) (fun _ _ => trivial)) rfl ?_
                        refine wl_run rfl ?_
                        refine wl_pure (v := .bool (!v59)) tt_ok rfl rfl ?_
                        simp only [Option.some.injEq, Prod.mk.injEq] at h
                        obtain rfl := h
                        have h := hg61; clear hg61
                        refine wl_pure (v := .bool (!v59)) tt_ok rfl rfl ?_
                        refine wl_nil ?_
                        refine wx_then ?_
                        refine wc_cond rfl (fun hc => ?_) (fun hc => ?_)
                        · replace h := ct hc h
                          refine wc_seq ?_
                          refine wc_region ?_
                          refine wl_pure tt_ok rfl rfl ?_
                          refine wl_nil ?_
                          refine wx_then ?_
                          refine wc_ret ?_
                          refine wx_then_ret ?_
                          simp only [Option.some.injEq] at h
                          obtain rfl := h
                          exact wx_pf tt_ok (.inl rfl) Try.results5 (Res.tmp rfl Res.nil) rfl
                        · replace h := cf hc h
                          refine wc_skip ?_
                          refine wx_then ?_
                          refine wc_seq ?_
                          refine wc_region ?_
                          refine wl_pure (v := .agg #[.slice none 0 0]) tt_ok rfl rfl ?_
                          refine wl_box rfl rfl rfl (fun b63 => ?_)
                          refine wl_pure tt_ok rfl rfl ?_
                          refine wl_nil ?_
                          refine wx_then ?_
                          refine wc_seq ?_
                          refine wc_region ?_
                          refine wl_pure tt_ok rfl rfl ?_
                          replace h := bsome h; obtain ⟨o65_0, x65, h⟩ := h
                          refine wl_cs Try.call30 rfl rfl rfl (s_sp (k_codec_Writer_Text Vec.none x65) (pCons Sel.hc (pNo pNil)) (fun _ _ => trivial)) rfl ?_
                          rintro _ _ ⟨_, ⟨o65_0a0, o65_0c0, o65_0B0, o65_0V0, rfl, rfl⟩, rfl⟩
                          refine wl_nil ?_
                          refine wx_then ?_
                          refine wc_seq ?_
                          refine wc_region ?_
                          refine wl_pure tt_ok rfl rfl ?_
                          replace h := bsome h; obtain ⟨o67_0, x67, h⟩ := h
                          refine wl_cs Try.call30 rfl rfl rfl (s_sp (k_codec_Writer_Text o65_0V0 x67) (pCons Sel.hc (pApp Sel.ha pNil)) (fun _ _ => trivial)) rfl ?_
                          rintro _ _ ⟨_, ⟨o67_0a0, o67_0c0, o67_0B0, o67_0V0, rfl, rfl⟩, rfl⟩
                          refine wl_nil ?_
                          refine wx_then ?_
                          refine wc_seq ?_
                          refine wc_region ?_
                          replace h := bsome h; obtain ⟨v68, x68, h⟩ := h
                          refine wl_cs Try.call13 rfl rfl rfl (s_sp (k_codec_New x68) pNil (fun _ _ => trivial)) rfl ?_
                          rintro _ _ ⟨_, ⟨b68_0, rfl, rfl⟩, rfl⟩
                          replace h := bsome h; obtain ⟨v69, x69, h⟩ := h
                          refine wl_cs Try.call13 rfl rfl rfl (s_sp (k_codec_New x69) pNil (fun _ _ => trivial)) rfl ?_
                          rintro _ _ ⟨_, ⟨b69_0, rfl, rfl⟩, rfl⟩
                          replace h := bsome h; obtain ⟨v70, x70, h⟩ := h
                          refine wl_cs Try.call13 rfl rfl rfl (s_sp (k_codec_New x70) pNil (fun _ _ => trivial)) rfl ?_
                          rintro _ _ ⟨_, ⟨b70_0, rfl, rfl⟩, rfl⟩
                          refine wl_pure tt_ok rfl rfl ?_
                          refine wl_pure tt_ok rfl rfl ?_
                          refine wl_pure tt_ok rfl rfl ?_
                          refine wl_nil ?_
                          refine wx_then ?_
                          refine wc_seq ?_
                          refine wc_seq ?_
                          refine wc_region ?_
                          refine wl_pure tt_ok rfl rfl ?_
                          replace h := bsome h; obtain ⟨v72, x72, h⟩ := h
                          refine wl_cq Try.call12 rfl rfl rfl (q_rd (k_codec_Writer_Bytes o67_0V0 x72) (pCons (Sel.sc (Sel.sc (Sel.sc Sel.hc))) (pApp (Sel.sc (Sel.sc (Sel.sc Sel.ha))) pNil)) (fun _ _ => trivial)) rfl ?_
                          refine wl_val (v := .bool (!(v72 == ([2, 97, 98, 0] : List UInt8)))) (val_sne tt_ok rfl rfl) rfl ?_
                          refine wl_pure tt_ok rfl rfl ?_
                          replace h := bsome h; obtain ⟨v77, h, hg77⟩ := h
                          refine wl_split (t := 74) rfl (fun hc => ?_) (fun hc => ?_)
                          · replace h := ct hc h
                            refine wl_skip rfl rfl ?_
                            refine wl_skip rfl rfl ?_
                            simp only [Option.some.injEq, Prod.mk.injEq] at h
                            obtain rfl := h
                            have h := hg77; clear hg77
                            refine wl_pure (v := .bool true) tt_ok rfl rfl ?_
                            refine wl_pure tt_ok rfl rfl ?_
                            replace h := bsome h; obtain ⟨v81, h, hg81⟩ := h
                            replace h := ct rfl h
                            refine wl_skip rfl rfl ?_
                            refine wl_skip rfl rfl ?_
                            simp only [Option.some.injEq, Prod.mk.injEq] at h
                            obtain rfl := h
                            have h := hg81; clear hg81
                            refine wl_pure (v := .bool true) tt_ok rfl rfl ?_
                            refine wl_pure tt_ok rfl rfl ?_
                            replace h := bsome h; obtain ⟨v85, h, hg85⟩ := h
                            replace h := ct rfl h
                            refine wl_skip rfl rfl ?_
                            refine wl_skip rfl rfl ?_
                            simp only [Option.some.injEq, Prod.mk.injEq] at h
                            obtain rfl := h
                            have h := hg85; clear hg85
                            refine wl_pure (v := .bool true) tt_ok rfl rfl ?_
                            refine wl_nil ?_
                            refine wx_then ?_
                            replace h := ct rfl h
                            refine wc_cond_true rfl ?_
                            refine wc_seq ?_
                            refine wc_region ?_
                            refine wl_pure tt_ok rfl rfl ?_
                            refine wl_nil ?_
                            refine wx_then ?_
                            refine wc_ret ?_
                            refine wx_then_ret ?_
                            simp only [Option.some.injEq] at h
                            obtain rfl := h
                            exact wx_pf tt_ok (.inl rfl) Try.results5 (Res.tmp rfl Res.nil) rfl
                          · replace h := cf hc h
                            refine wl_run rfl ?_
                            refine wl_pure tt_ok rfl rfl ?_
                            refine wl_run rfl ?_
                            refine wl_pure (v := .bool false) tt_ok rfl rfl ?_
                            simp only [Option.some.injEq, Prod.mk.injEq] at h
                            obtain rfl := h
                            have h := hg77; clear hg77
                            refine wl_pure (v := .bool false) tt_ok rfl rfl ?_
                            refine wl_pure tt_ok rfl rfl ?_
                            replace h := bsome h; obtain ⟨v81, h, hg81⟩ := h
                            replace h := cf rfl h
                            refine wl_run rfl ?_
                            refine wl_pure tt_ok rfl rfl ?_
                            refine wl_run rfl ?_
                            refine wl_pure (v := .bool false) tt_ok rfl rfl ?_
                            simp only [Option.some.injEq, Prod.mk.injEq] at h
                            obtain rfl := h
                            have h := hg81; clear hg81
                            refine wl_pure (v := .bool false) tt_ok rfl rfl ?_
                            refine wl_pure tt_ok rfl rfl ?_
                            replace h := bsome h; obtain ⟨v85, h, hg85⟩ := h
                            replace h := cf rfl h
                            refine wl_run rfl ?_
                            refine wl_pure tt_ok rfl rfl ?_
                            refine wl_run rfl ?_
                            refine wl_pure (v := .bool false) tt_ok rfl rfl ?_
                            simp only [Option.some.injEq, Prod.mk.injEq] at h
                            obtain rfl := h
                            have h := hg85; clear hg85
                            refine wl_pure (v := .bool false) tt_ok rfl rfl ?_
                            refine wl_nil ?_
                            refine wx_then ?_
                            replace h := cf rfl h
                            refine wc_cond_false rfl ?_
                            refine wc_skip ?_
                            refine wx_then ?_
                            refine wc_seq ?_
                            refine wc_region ?_
                            refine wl_pure tt_ok rfl rfl ?_
                            replace h := bsome h; obtain ⟨⟨o87_0, v87⟩, x87, h⟩ := h; try dsimp only at h
                            refine wl_cs Try.call16 rfl rfl rfl (s_sp (k_codec_Reader_U16 x87) (pCons (Sel.sc (Sel.sc Sel.hc)) pNil) (fun _ _ => trivial)) rfl ?_
                            rintro _ _ ⟨_, ⟨rfl, rfl⟩, rfl⟩
                            refine wl_pure tt_ok rfl rfl ?_
                            replace h := bsome h; obtain ⟨⟨o89_0, v89⟩, x89, h⟩ := h; try dsimp only at h
                            refine wl_cs Try.call22 rfl rfl rfl (s_sp (k_codec_Reader_Text x89) (pCons (Sel.sc (Sel.sc Sel.hc)) pNil) (fun _ _ => trivial)) rfl ?_
                            rintro _ _ ⟨_, ⟨rfl, rfl⟩, rfl⟩
                            refine wl_pure tt_ok rfl rfl ?_
                            refine wl_pure tt_ok rfl rfl ?_
                            refine wl_nil ?_
                            refine wx_then ?_
                            refine wc_seq ?_
                            refine wc_region ?_
                            refine wl_pure tt_ok rfl rfl ?_
                            replace h := bsome h; obtain ⟨⟨o91_0, v91⟩, x91, h⟩ := h; try dsimp only at h
                            refine wl_cs Try.call14 rfl rfl rfl (s_sp (k_codec_Reader_U8 x91) (pCons (Sel.sc (Sel.sc Sel.hc)) pNil) (fun _ _ => trivial)) rfl ?_
                            rintro _ _ ⟨_, ⟨rfl, rfl⟩, rfl⟩
                            refine wl_pure tt_ok rfl rfl ?_
                            replace h := bsome h; obtain ⟨⟨o93_0, v93⟩, x93, h⟩ := h; try dsimp only at h
                            refine wl_cs Try.call16 rfl rfl rfl (s_sp (k_codec_Reader_U16 x93) (pCons Sel.hc pNil) (fun _ _ => trivial)) rfl ?_
                            rintro _ _ ⟨_, ⟨rfl, rfl⟩, rfl⟩
                            refine wl_pure tt_ok rfl rfl ?_
                            replace h := bsome h; obtain ⟨⟨o95_0, v95⟩, x95, h⟩ := h; try dsimp only at h
                            refine wl_cs Try.call14 rfl rfl rfl (s_sp (k_codec_Reader_U8 x95) (pCons Sel.hc pNil) (fun _ _ => trivial)) rfl ?_
                            rintro _ _ ⟨_, ⟨rfl, rfl⟩, rfl⟩
                            refine wl_pure tt_ok rfl rfl ?_
                            refine wl_pure tt_ok rfl rfl ?_
                            refine wl_pure tt_ok rfl rfl ?_
                            refine wl_nil ?_
                            refine wx_then ?_
                            refine wc_seq ?_
                            refine wc_seq ?_
                            refine wc_region ?_
                            refine wl_pure tt_ok rfl rfl ?_
                            refine wl_pure (v := .bool (v87 != (0 : Int))) tt_ok rfl rfl ?_
                            refine wl_pure tt_ok rfl rfl ?_
                            replace h := bsome h; obtain ⟨v102, h, hg102⟩ := h
                            refine wl_split (t := 98) rfl (fun hc => ?_) (fun hc => ?_)
                            · replace h := ct hc h
                              refine wl_skip rfl rfl ?_
                              refine wl_skip rfl rfl ?_
                              refine wl_skip rfl rfl ?_
                              simp only [Option.some.injEq, Prod.mk.injEq] at h
                              obtain rfl := h
                              have h := hg102; clear hg102
                              refine wl_pure (v := .bool true) tt_ok rfl rfl ?_
                              refine wl_pure tt_ok rfl rfl ?_
                              replace h := bsome h; obtain ⟨v106, h, hg106⟩ := h
                              replace h := ct rfl h
                              refine wl_skip rfl rfl ?_
                              refine wl_skip rfl rfl ?_
                              simp only [Option.some.injEq, Prod.mk.injEq] at h
                              obtain rfl := h
                              have h := hg106; clear hg106
                              refine wl_pure (v := .bool true) tt_ok rfl rfl ?_
                              refine wl_pure tt_ok rfl rfl ?_
                              replace h := bsome h; obtain ⟨v111, h, hg111⟩ := h
                              replace h := ct rfl h
                              refine wl_skip rfl rfl ?_
                              refine wl_skip rfl rfl ?_
                              refine wl_skip rfl rfl ?_
                              simp only [Option.some.injEq, Prod.mk.injEq] at h
                              obtain rfl := h
                              have h := hg111; clear hg111
                              refine wl_pure (v := .bool true) tt_ok rfl rfl ?_
                              refine wl_pure tt_ok rfl rfl ?_
                              replace h := bsome h; obtain ⟨v115, h, hg115⟩ := h
                              replace h := ct rfl h
                              refine wl_skip rfl rfl ?_
                              refine wl_skip rfl rfl ?_
                              simp only [Option.some.injEq, Prod.mk.injEq] at h
                              obtain rfl := h
                              have h := hg115; clear hg115
                              refine wl_pure (v := .bool true) tt_ok rfl rfl ?_
                              refine wl_pure tt_ok rfl rfl ?_
                              replace h := bsome h; obtain ⟨v119, h, hg119⟩ := h
                              replace h := ct rfl h
                              refine wl_skip rfl rfl ?_
                              refine wl_skip rfl rfl ?_
                              simp only [Option.some.injEq, Prod.mk.injEq] at h
                              obtain rfl := h
                              have h := hg119; clear hg119
                              refine wl_pure (v := .bool true) tt_ok rfl rfl ?_
                              refine wl_pure tt_ok rfl rfl ?_
                              replace h := bsome h; obtain ⟨v123, h, hg123⟩ := h
                              replace h := ct rfl h
                              refine wl_skip rfl rfl ?_
                              refine wl_skip rfl rfl ?_
                              simp only [Option.some.injEq, Prod.mk.injEq] at h
                              obtain rfl := h
                              have h := hg123; clear hg123
                              refine wl_pure (v := .bool true) tt_ok rfl rfl ?_
                              refine wl_pure tt_ok rfl rfl ?_
                              replace h := bsome h; obtain ⟨v128, h, hg128⟩ := h
                              replace h := ct rfl h
                              refine wl_skip rfl rfl ?_
                              refine wl_skip rfl rfl ?_
                              refine wl_skip rfl rfl ?_
                              simp only [Option.some.injEq, Prod.mk.injEq] at h
                              obtain rfl := h
                              have h := hg128; clear hg128
                              refine wl_pure (v := .bool true) tt_ok rfl rfl ?_
                              refine wl_pure tt_ok rfl rfl ?_
                              replace h := bsome h; obtain ⟨v133, h, hg133⟩ := h
                              replace h := ct rfl h
                              refine wl_skip rfl rfl ?_
                              refine wl_skip rfl rfl ?_
                              refine wl_skip rfl rfl ?_
                              simp only [Option.some.injEq, Prod.mk.injEq] at h
                              obtain rfl := h
                              have h := hg133; clear hg133
                              refine wl_pure (v := .bool true) tt_ok rfl rfl ?_
                              refine wl_nil ?_
                              refine wx_then ?_
                              replace h := ct rfl h
                              refine wc_cond_true rfl ?_
                              refine wc_seq ?_
                              refine wc_region ?_
                              refine wl_pure tt_ok rfl rfl ?_
                              refine wl_nil ?_
                              refine wx_then ?_
                              refine wc_ret ?_
                              refine wx_then_ret ?_
                              simp only [Option.some.injEq] at h
                              obtain rfl := h
                              exact wx_pf tt_ok (.inl rfl) Try.results5 (Res.tmp rfl Res.nil) rfl
                            · replace h := cf hc h
                              refine wl_run rfl ?_
                              refine wl_pure tt_ok rfl rfl ?_
                              replace h := bsome h; obtain ⟨v100, x100, h⟩ := h
                              refine wl_run rfl ?_
                              refine wl_cq Try.call24 rfl rfl rfl (q_rd (k_codec_Reader_Err x100) (pCons (Sel.sc (Sel.sc Sel.hc)) pNil) (fun _ _ => trivial)) rfl ?_
                              refine wl_run rfl ?_
                              refine wl_pure (v := .bool (v100 != (10 : Int))) tt_ok rfl rfl ?_
                              simp only [Option.some.injEq, Prod.mk.injEq] at h
                              obtain rfl := h
                              have h := hg102; clear hg102
                              refine wl_pure (v := .bool (v100 != (10 : Int))) tt_ok rfl rfl ?_
                              refine wl_pure tt_ok rfl rfl ?_
                              replace h := bsome h; obtain ⟨v106, h, hg106⟩ := h
                              refine wl_split (t := 103) rfl (fun hc => ?_) (fun hc => ?_)
                              · replace h := ct hc h
                                refine wl_skip rfl rfl ?_
                                refine wl_skip rfl rfl ?_
                                simp only [Option.some.injEq, Prod.mk.injEq] at h
                                obtain rfl := h
                                have h := hg106; clear hg106
                                refine wl_pure (v := .bool true) tt_ok rfl rfl ?_
                                refine wl_pure tt_ok rfl rfl ?_
                                replace h := bsome h; obtain ⟨v111, h, hg111⟩ := h
                                replace h := ct rfl h
                                refine wl_skip rfl rfl ?_
                                refine wl_skip rfl rfl ?_
                                refine wl_skip rfl rfl ?_
                                simp only [Option.some.injEq, Prod.mk.injEq] at h
                                obtain rfl := h
                                have h := hg111; clear hg111
                                refine wl_pure (v := .bool true) tt_ok rfl rfl ?_
                                refine wl_pure tt_ok rfl rfl ?_
                                replace h := bsome h; obtain ⟨v115, h, hg115⟩ := h
                                replace h := ct rfl h
                                refine wl_skip rfl rfl ?_
                                refine wl_skip rfl rfl ?_
                                simp only [Option.some.injEq, Prod.mk.injEq] at h
                                obtain rfl := h
                                have h := hg115; clear hg115
                                refine wl_pure (v := .bool true) tt_ok rfl rfl ?_
                                refine wl_pure tt_ok rfl rfl ?_
                                replace h := bsome h; obtain ⟨v119, h, hg119⟩ := h
                                replace h := ct rfl h
                                refine wl_skip rfl rfl ?_
                                refine wl_skip rfl rfl ?_
                                simp only [Option.some.injEq, Prod.mk.injEq] at h
                                obtain rfl := h
                                have h := hg119; clear hg119
                                refine wl_pure (v := .bool true) tt_ok rfl rfl ?_
                                refine wl_pure tt_ok rfl rfl ?_
                                replace h := bsome h; obtain ⟨v123, h, hg123⟩ := h
                                replace h := ct rfl h
                                refine wl_skip rfl rfl ?_
                                refine wl_skip rfl rfl ?_
                                simp only [Option.some.injEq, Prod.mk.injEq] at h
                                obtain rfl := h
                                have h := hg123; clear hg123
                                refine wl_pure (v := .bool true) tt_ok rfl rfl ?_
                                refine wl_pure tt_ok rfl rfl ?_
                                replace h := bsome h; obtain ⟨v128, h, hg128⟩ := h
                                replace h := ct rfl h
                                refine wl_skip rfl rfl ?_
                                refine wl_skip rfl rfl ?_
                                refine wl_skip rfl rfl ?_
                                simp only [Option.some.injEq, Prod.mk.injEq] at h
                                obtain rfl := h
                                have h := hg128; clear hg128
                                refine wl_pure (v := .bool true) tt_ok rfl rfl ?_
                                refine wl_pure tt_ok rfl rfl ?_
                                replace h := bsome h; obtain ⟨v133, h, hg133⟩ := h
                                replace h := ct rfl h
                                refine wl_skip rfl rfl ?_
                                refine wl_skip rfl rfl ?_
                                refine wl_skip rfl rfl ?_
                                simp only [Option.some.injEq, Prod.mk.injEq] at h
                                obtain rfl := h
                                have h := hg133; clear hg133
                                refine wl_pure (v := .bool true) tt_ok rfl rfl ?_
                                refine wl_nil ?_
                                refine wx_then ?_
                                replace h := ct rfl h
                                refine wc_cond_true rfl ?_
                                refine wc_seq ?_
                                refine wc_region ?_
                                refine wl_pure tt_ok rfl rfl ?_
                                refine wl_nil ?_
                                refine wx_then ?_
                                refine wc_ret ?_
                                refine wx_then_ret ?_
                                simp only [Option.some.injEq] at h
                                obtain rfl := h
                                exact wx_pf tt_ok (.inl rfl) Try.results5 (Res.tmp rfl Res.nil) rfl
                              · replace h := cf hc h
                                refine wl_run rfl ?_
                                refine wl_pure tt_ok rfl rfl ?_
                                refine wl_run rfl ?_
                                refine wl_val (v := .bool (!(v89 == ([] : List UInt8)))) (val_sne tt_ok rfl rfl) rfl ?_
                                simp only [Option.some.injEq, Prod.mk.injEq] at h
                                obtain rfl := h
                                have h := hg106; clear hg106
                                refine wl_pure (v := .bool (!(v89 == ([] : List UInt8)))) tt_ok rfl rfl ?_
                                refine wl_pure tt_ok rfl rfl ?_
                                replace h := bsome h; obtain ⟨v111, h, hg111⟩ := h
                                refine wl_split (t := 107) rfl (fun hc => ?_) (fun hc => ?_)
                                · replace h := ct hc h
                                  refine wl_skip rfl rfl ?_
                                  refine wl_skip rfl rfl ?_
                                  refine wl_skip rfl rfl ?_
                                  simp only [Option.some.injEq, Prod.mk.injEq] at h
                                  obtain rfl := h
                                  have h := hg111; clear hg111
                                  refine wl_pure (v := .bool true) tt_ok rfl rfl ?_
                                  refine wl_pure tt_ok rfl rfl ?_
                                  replace h := bsome h; obtain ⟨v115, h, hg115⟩ := h
                                  replace h := ct rfl h
                                  refine wl_skip rfl rfl ?_
                                  refine wl_skip rfl rfl ?_
                                  simp only [Option.some.injEq, Prod.mk.injEq] at h
                                  obtain rfl := h
                                  have h := hg115; clear hg115
                                  refine wl_pure (v := .bool true) tt_ok rfl rfl ?_
                                  refine wl_pure tt_ok rfl rfl ?_
                                  replace h := bsome h; obtain ⟨v119, h, hg119⟩ := h
                                  replace h := ct rfl h
                                  refine wl_skip rfl rfl ?_
                                  refine wl_skip rfl rfl ?_
                                  simp only [Option.some.injEq, Prod.mk.injEq] at h
                                  obtain rfl := h
                                  have h := hg119; clear hg119
                                  refine wl_pure (v := .bool true) tt_ok rfl rfl ?_
                                  refine wl_pure tt_ok rfl rfl ?_
                                  replace h := bsome h; obtain ⟨v123, h, hg123⟩ := h
                                  replace h := ct rfl h
                                  refine wl_skip rfl rfl ?_
                                  refine wl_skip rfl rfl ?_
                                  simp only [Option.some.injEq, Prod.mk.injEq] at h
                                  obtain rfl := h
                                  have h := hg123; clear hg123
                                  refine wl_pure (v := .bool true) tt_ok rfl rfl ?_
                                  refine wl_pure tt_ok rfl rfl ?_
                                  replace h := bsome h; obtain ⟨v128, h, hg128⟩ := h
                                  replace h := ct rfl h
                                  refine wl_skip rfl rfl ?_
                                  refine wl_skip rfl rfl ?_
                                  refine wl_skip rfl rfl ?_
                                  simp only [Option.some.injEq, Prod.mk.injEq] at h
                                  obtain rfl := h
                                  have h := hg128; clear hg128
                                  refine wl_pure (v := .bool true) tt_ok rfl rfl ?_
                                  refine wl_pure tt_ok rfl rfl ?_
                                  replace h := bsome h; obtain ⟨v133, h, hg133⟩ := h
                                  replace h := ct rfl h
                                  refine wl_skip rfl rfl ?_
                                  refine wl_skip rfl rfl ?_
                                  refine wl_skip rfl rfl ?_
                                  simp only [Option.some.injEq, Prod.mk.injEq] at h
                                  obtain rfl := h
                                  have h := hg133; clear hg133
                                  refine wl_pure (v := .bool true) tt_ok rfl rfl ?_
                                  refine wl_nil ?_
                                  refine wx_then ?_
                                  replace h := ct rfl h
                                  refine wc_cond_true rfl ?_
                                  refine wc_seq ?_
                                  refine wc_region ?_
                                  refine wl_pure tt_ok rfl rfl ?_
                                  refine wl_nil ?_
                                  refine wx_then ?_
                                  refine wc_ret ?_
                                  refine wx_then_ret ?_
                                  simp only [Option.some.injEq] at h
                                  obtain rfl := h
                                  exact wx_pf tt_ok (.inl rfl) Try.results5 (Res.tmp rfl Res.nil) rfl
                                · replace h := cf hc h
                                  refine wl_run rfl ?_
                                  refine wl_pure tt_ok rfl rfl ?_
                                  replace h := bsome h; obtain ⟨v109, x109, h⟩ := h
                                  refine wl_run rfl ?_
                                  refine wl_cq Try.call24 rfl rfl rfl (q_rd (k_codec_Reader_Err x109) (pCons (Sel.sc Sel.hc) pNil) (fun _ _ => trivial)) rfl ?_
                                  refine wl_run rfl ?_
                                  refine wl_pure (v := .bool (v109 != (10 : Int))) tt_ok rfl rfl ?_
                                  simp only [Option.some.injEq, Prod.mk.injEq] at h
                                  obtain rfl := h
                                  have h := hg111; clear hg111
                                  refine wl_pure (v := .bool (v109 != (10 : Int))) tt_ok rfl rfl ?_
                                  refine wl_pure tt_ok rfl rfl ?_
                                  replace h := bsome h; obtain ⟨v115, h, hg115⟩ := h
                                  refine wl_split (t := 112) rfl (fun hc => ?_) (fun hc => ?_)
                                  · replace h := ct hc h
                                    refine wl_skip rfl rfl ?_
                                    refine wl_skip rfl rfl ?_
                                    simp only [Option.some.injEq, Prod.mk.injEq] at h
                                    obtain rfl := h
                                    have h := hg115; clear hg115
                                    refine wl_pure (v := .bool true) tt_ok rfl rfl ?_
                                    refine wl_pure tt_ok rfl rfl ?_
                                    replace h := bsome h; obtain ⟨v119, h, hg119⟩ := h
                                    replace h := ct rfl h
                                    refine wl_skip rfl rfl ?_
                                    refine wl_skip rfl rfl ?_
                                    simp only [Option.some.injEq, Prod.mk.injEq] at h
                                    obtain rfl := h
                                    have h := hg119; clear hg119
                                    refine wl_pure (v := .bool true) tt_ok rfl rfl ?_
                                    refine wl_pure tt_ok rfl rfl ?_
                                    replace h := bsome h; obtain ⟨v123, h, hg123⟩ := h
                                    replace h := ct rfl h
                                    refine wl_skip rfl rfl ?_
                                    refine wl_skip rfl rfl ?_
                                    simp only [Option.some.injEq, Prod.mk.injEq] at h
                                    obtain rfl := h
                                    have h := hg123; clear hg123
                                    refine wl_pure (v := .bool true) tt_ok rfl rfl ?_
                                    refine wl_pure tt_ok rfl rfl ?_
                                    replace h := bsome h; obtain ⟨v128, h, hg128⟩ := h
                                    replace h := ct rfl h
                                    refine wl_skip rfl rfl ?_
                                    refine wl_skip rfl rfl ?_
                                    refine wl_skip rfl rfl ?_
                                    simp only [Option.some.injEq, Prod.mk.injEq] at h
                                    obtain rfl := h
                                    have h := hg128; clear hg128
                                    refine wl_pure (v := .bool true) tt_ok rfl rfl ?_
                                    refine wl_pure tt_ok rfl rfl ?_
                                    replace h := bsome h; obtain ⟨v133, h, hg133⟩ := h
                                    replace h := ct rfl h
                                    refine wl_skip rfl rfl ?_
                                    refine wl_skip rfl rfl ?_
                                    refine wl_skip rfl rfl ?_
                                    simp only [Option.some.injEq, Prod.mk.injEq] at h
                                    obtain rfl := h
                                    have h := hg133; clear hg133
                                    refine wl_pure (v := .bool true) tt_ok rfl rfl ?_
                                    refine wl_nil ?_
                                    refine wx_then ?_
                                    replace h := ct rfl h
                                    refine wc_cond_true rfl ?_
                                    refine wc_seq ?_
                                    refine wc_region ?_
                                    refine wl_pure tt_ok rfl rfl ?_
                                    refine wl_nil ?_
                                    refine wx_then ?_
                                    refine wc_ret ?_
                                    refine wx_then_ret ?_
                                    simp only [Option.some.injEq] at h
                                    obtain rfl := h
                                    exact wx_pf tt_ok (.inl rfl) Try.results5 (Res.tmp rfl Res.nil) rfl
                                  · replace h := cf hc h
                                    refine wl_run rfl ?_
                                    refine wl_pure tt_ok rfl rfl ?_
                                    refine wl_run rfl ?_
                                    refine wl_pure (v := .bool (v91 != (1 : Int))) tt_ok rfl rfl ?_
                                    simp only [Option.some.injEq, Prod.mk.injEq] at h
                                    obtain rfl := h
                                    have h := hg115; clear hg115
                                    refine wl_pure (v := .bool (v91 != (1 : Int))) tt_ok rfl rfl ?_
                                    refine wl_pure tt_ok rfl rfl ?_
                                    replace h := bsome h; obtain ⟨v119, h, hg119⟩ := h
                                    refine wl_split (t := 116) rfl (fun hc => ?_) (fun hc => ?_)
                                    · replace h := ct hc h
                                      refine wl_skip rfl rfl ?_
                                      refine wl_skip rfl rfl ?_
                                      simp only [Option.some.injEq, Prod.mk.injEq] at h
                                      obtain rfl := h
                                      have h := hg119; clear hg119
                                      refine wl_pure (v := .bool true) tt_ok rfl rfl ?_
                                      refine wl_pure tt_ok rfl rfl ?_
                                      replace h := bsome h; obtain ⟨v123, h, hg123⟩ := h
                                      replace h := ct rfl h
                                      refine wl_skip rfl rfl ?_
                                      refine wl_skip rfl rfl ?_
                                      simp only [Option.some.injEq, Prod.mk.injEq] at h
                                      obtain rfl := h
                                      have h := hg123; clear hg123
                                      refine wl_pure (v := .bool true) tt_ok rfl rfl ?_
                                      refine wl_pure tt_ok rfl rfl ?_
                                      replace h := bsome h; obtain ⟨v128, h, hg128⟩ := h
                                      replace h := ct rfl h
                                      refine wl_skip rfl rfl ?_
                                      refine wl_skip rfl rfl ?_
                                      refine wl_skip rfl rfl ?_
                                      simp only [Option.some.injEq, Prod.mk.injEq] at h
                                      obtain rfl := h
                                      have h := hg128; clear hg128
                                      refine wl_pure (v := .bool true) tt_ok rfl rfl ?_
                                      refine wl_pure tt_ok rfl rfl ?_
                                      replace h := bsome h; obtain ⟨v133, h, hg133⟩ := h
                                      replace h := ct rfl h
                                      refine wl_skip rfl rfl ?_
                                      refine wl_skip rfl rfl ?_
                                      refine wl_skip rfl rfl ?_
                                      simp only [Option.some.injEq, Prod.mk.injEq] at h
                                      obtain rfl := h
                                      have h := hg133; clear hg133
                                      refine wl_pure (v := .bool true) tt_ok rfl rfl ?_
                                      refine wl_nil ?_
                                      refine wx_then ?_
                                      replace h := ct rfl h
                                      refine wc_cond_true rfl ?_
                                      refine wc_seq ?_
                                      refine wc_region ?_
                                      refine wl_pure tt_ok rfl rfl ?_
                                      refine wl_nil ?_
                                      refine wx_then ?_
                                      refine wc_ret ?_
                                      refine wx_then_ret ?_
                                      simp only [Option.some.injEq] at h
                                      obtain rfl := h
                                      exact wx_pf tt_ok (.inl rfl) Try.results5 (Res.tmp rfl Res.nil) rfl
                                    · replace h := cf hc h
                                      refine wl_run rfl ?_
                                      refine wl_pure tt_ok rfl rfl ?_
                                      refine wl_run rfl ?_
                                      refine wl_pure (v := .bool (v93 != (0 : Int))) tt_ok rfl rfl ?_
                                      simp only [Option.some.injEq, Prod.mk.injEq] at h
                                      obtain rfl := h
                                      have h := hg119; clear hg119
                                      refine wl_pure (v := .bool (v93 != (0 : Int))) tt_ok rfl rfl ?_
                                      refine wl_pure tt_ok rfl rfl ?_
                                      replace h := bsome h; obtain ⟨v123, h, hg123⟩ := h
                                      refine wl_split (t := 120) rfl (fun hc => ?_) (fun hc => ?_)
                                      · replace h := ct hc h
                                        refine wl_skip rfl rfl ?_
                                        refine wl_skip rfl rfl ?_
                                        simp only [Option.some.injEq, Prod.mk.injEq] at h
                                        obtain rfl := h
                                        have h := hg123; clear hg123
                                        refine wl_pure (v := .bool true) tt_ok rfl rfl ?_
                                        refine wl_pure tt_ok rfl rfl ?_
                                        replace h := bsome h; obtain ⟨v128, h, hg128⟩ := h
                                        replace h := ct rfl h
                                        refine wl_skip rfl rfl ?_
                                        refine wl_skip rfl rfl ?_
                                        refine wl_skip rfl rfl ?_
                                        simp only [Option.some.injEq, Prod.mk.injEq] at h
                                        obtain rfl := h
                                        have h := hg128; clear hg128
                                        refine wl_pure (v := .bool true) tt_ok rfl rfl ?_
                                        refine wl_pure tt_ok rfl rfl ?_
                                        replace h := bsome h; obtain ⟨v133, h, hg133⟩ := h
                                        replace h := ct rfl h
                                        refine wl_skip rfl rfl ?_
                                        refine wl_skip rfl rfl ?_
                                        refine wl_skip rfl rfl ?_
                                        simp only [Option.some.injEq, Prod.mk.injEq] at h
                                        obtain rfl := h
                                        have h := hg133; clear hg133
                                        refine wl_pure (v := .bool true) tt_ok rfl rfl ?_
                                        refine wl_nil ?_
                                        refine wx_then ?_
                                        replace h := ct rfl h
                                        refine wc_cond_true rfl ?_
                                        refine wc_seq ?_
                                        refine wc_region ?_
                                        refine wl_pure tt_ok rfl rfl ?_
                                        refine wl_nil ?_
                                        refine wx_then ?_
                                        refine wc_ret ?_
                                        refine wx_then_ret ?_
                                        simp only [Option.some.injEq] at h
                                        obtain rfl := h
                                        exact wx_pf tt_ok (.inl rfl) Try.results5 (Res.tmp rfl Res.nil) rfl
                                      · replace h := cf hc h
                                        refine wl_run rfl ?_
                                        refine wl_pure tt_ok rfl rfl ?_
                                        refine wl_run rfl ?_
                                        refine wl_pure (v := .bool (v95 != (0 : Int))) tt_ok rfl rfl ?_
                                        simp only [Option.some.injEq, Prod.mk.injEq] at h
                                        obtain rfl := h
                                        have h := hg123; clear hg123
                                        refine wl_pure (v := .bool (v95 != (0 : Int))) tt_ok rfl rfl ?_
                                        refine wl_pure tt_ok rfl rfl ?_
                                        replace h := bsome h; obtain ⟨v128, h, hg128⟩ := h
                                        refine wl_split (t := 124) rfl (fun hc => ?_) (fun hc => ?_)
                                        · replace h := ct hc h
                                          refine wl_skip rfl rfl ?_
                                          refine wl_skip rfl rfl ?_
                                          refine wl_skip rfl rfl ?_
                                          simp only [Option.some.injEq, Prod.mk.injEq] at h
                                          obtain rfl := h
                                          have h := hg128; clear hg128
                                          refine wl_pure (v := .bool true) tt_ok rfl rfl ?_
                                          refine wl_pure tt_ok rfl rfl ?_
                                          replace h := bsome h; obtain ⟨v133, h, hg133⟩ := h
                                          replace h := ct rfl h
                                          refine wl_skip rfl rfl ?_
                                          refine wl_skip rfl rfl ?_
                                          refine wl_skip rfl rfl ?_
                                          simp only [Option.some.injEq, Prod.mk.injEq] at h
                                          obtain rfl := h
                                          have h := hg133; clear hg133
                                          refine wl_pure (v := .bool true) tt_ok rfl rfl ?_
                                          refine wl_nil ?_
                                          refine wx_then ?_
                                          replace h := ct rfl h
                                          refine wc_cond_true rfl ?_
                                          refine wc_seq ?_
                                          refine wc_region ?_
                                          refine wl_pure tt_ok rfl rfl ?_
                                          refine wl_nil ?_
                                          refine wx_then ?_
                                          refine wc_ret ?_
                                          refine wx_then_ret ?_
                                          simp only [Option.some.injEq] at h
                                          obtain rfl := h
                                          exact wx_pf tt_ok (.inl rfl) Try.results5 (Res.tmp rfl Res.nil) rfl
                                        · replace h := cf hc h
                                          refine wl_run rfl ?_
                                          refine wl_pure tt_ok rfl rfl ?_
                                          replace h := bsome h; obtain ⟨v126, x126, h⟩ := h
                                          refine wl_run rfl ?_
                                          refine wl_cq Try.call24 rfl rfl rfl (q_rd (k_codec_Reader_Err x126) (pCons Sel.hc pNil) (fun _ _ => trivial)) rfl ?_
                                          refine wl_run rfl ?_
                                          refine wl_pure (v := .bool (v126 != (10 : Int))) tt_ok rfl rfl ?_
                                          simp only [Option.some.injEq, Prod.mk.injEq] at h
                                          obtain rfl := h
                                          have h := hg128; clear hg128
                                          refine wl_pure (v := .bool (v126 != (10 : Int))) tt_ok rfl rfl ?_
                                          refine wl_pure tt_ok rfl rfl ?_
                                          replace h := bsome h; obtain ⟨v133, h, hg133⟩ := h
                                          refine wl_split (t := 129) rfl (fun hc => ?_) (fun hc => ?_)
                                          · replace h := ct hc h
                                            refine wl_skip rfl rfl ?_
                                            refine wl_skip rfl rfl ?_
                                            refine wl_skip rfl rfl ?_
                                            simp only [Option.some.injEq, Prod.mk.injEq] at h
                                            obtain rfl := h
                                            have h := hg133; clear hg133
                                            refine wl_pure (v := .bool true) tt_ok rfl rfl ?_
                                            refine wl_nil ?_
                                            refine wx_then ?_
                                            replace h := ct rfl h
                                            refine wc_cond_true rfl ?_
                                            refine wc_seq ?_
                                            refine wc_region ?_
                                            refine wl_pure tt_ok rfl rfl ?_
                                            refine wl_nil ?_
                                            refine wx_then ?_
                                            refine wc_ret ?_
                                            refine wx_then_ret ?_
                                            simp only [Option.some.injEq] at h
                                            obtain rfl := h
                                            exact wx_pf tt_ok (.inl rfl) Try.results5 (Res.tmp rfl Res.nil) rfl
                                          · replace h := cf hc h
                                            refine wl_run rfl ?_
                                            refine wl_pure tt_ok rfl rfl ?_
                                            replace h := bsome h; obtain ⟨v131, x131, h⟩ := h
                                            refine wl_run rfl ?_
                                            refine wl_cq Try.call25 rfl rfl rfl (q_rd (k_codec_Reader_Rest x131) (pCons Sel.hc pNil) (fun _ _ => trivial)) rfl ?_
                                            refine wl_run rfl ?_
                                            refine wl_val (v := .bool (!(v131 == ([] : List UInt8)))) (val_sne tt_ok rfl rfl) rfl ?_
                                            simp only [Option.some.injEq, Prod.mk.injEq] at h
                                            obtain rfl := h
                                            have h := hg133; clear hg133
                                            refine wl_pure (v := .bool (!(v131 == ([] : List UInt8)))) tt_ok rfl rfl ?_
                                            refine wl_nil ?_
                                            refine wx_then ?_
                                            refine wc_cond rfl (fun hc => ?_) (fun hc => ?_)
                                            · replace h := ct hc h
                                              refine wc_seq ?_
                                              refine wc_region ?_
                                              refine wl_pure tt_ok rfl rfl ?_
                                              refine wl_nil ?_
                                              refine wx_then ?_
                                              refine wc_ret ?_
                                              refine wx_then_ret ?_
                                              simp only [Option.some.injEq] at h
                                              obtain rfl := h
                                              exact wx_pf tt_ok (.inl rfl) Try.results5 (Res.tmp rfl Res.nil) rfl
                                            · replace h := cf hc h
                                              refine wc_skip ?_
                                              refine wx_then ?_
                                              refine wc_seq ?_
                                              refine wc_region ?_
                                              refine wl_pure tt_ok rfl rfl ?_
                                              refine wl_nil ?_
                                              refine wx_then ?_
                                              refine wc_seq ?_
                                              refine wc_region ?_
                                              refine wl_pure tt_ok rfl rfl ?_
                                              refine wl_nil ?_
                                              refine wx_then ?_
                                              refine wc_seq ?_
                                              refine wc_region ?_
                                              refine wl_pure tt_ok rfl rfl ?_
                                              replace h := bsome h; obtain ⟨_, x135, h⟩ := h
                                              refine wl_cq Try.call31 rfl rfl rfl (q_pf (k_codec_Writer_U8_nil0 x135) (fun _ _ => trivial)) rfl ?_
                                              refine wl_nil ?_
                                              refine wx_then ?_
                                              refine wc_seq ?_
                                              refine wc_region ?_
                                              refine wl_pure tt_ok rfl rfl ?_
                                              replace h := bsome h; obtain ⟨_, x137, h⟩ := h
                                              refine wl_cq Try.call30 rfl rfl rfl (q_pf (k_codec_Writer_Text_nil0 x137) (fun _ _ => trivial)) rfl ?_
                                              refine wl_nil ?_
                                              refine wx_then ?_
                                              refine wc_seq ?_
                                              refine wc_region ?_
                                              refine wl_pure tt_ok rfl rfl ?_
                                              replace h := bsome h; obtain ⟨v139, x139, h⟩ := h
                                              refine wl_cq Try.call12 rfl rfl rfl (q_pf (k_codec_Writer_Bytes_nil0 x139) (fun _ _ => trivial)) rfl ?_
                                              refine wl_val (v := .bool (v139 == ([] : List UInt8))) (val_seq tt_ok rfl rfl) rfl ?_
                                              refine wl_pure tt_ok rfl rfl ?_
                                              replace h := bsome h; obtain ⟨v145, h, hg145⟩ := h
                                              refine wl_split (t := 141) rfl (fun hc => ?_) (fun hc => ?_)
                                              · replace h := ct hc h
                                                refine wl_run rfl ?_
                                                refine wl_pure tt_ok rfl rfl ?_
                                                replace h := bsome h; obtain ⟨v143, x143, h⟩ := h
                                                refine wl_run rfl ?_
                                                refine wl_cq Try.call18 rfl rfl rfl (q_pf (k_codec_Reader_U64_nil0 x143) (fun _ _ => trivial)) rfl ?_
                                                refine wl_run rfl ?_
                                                refine wl_pure (v := .bool (v143 == (0 : Int))) tt_ok rfl rfl ?_
                                                simp only [Option.some.injEq, Prod.mk.injEq] at h
                                                obtain rfl := h
                                                have h := hg145; clear hg145
                                                refine wl_pure (v := .bool (v143 == (0 : Int))) tt_ok rfl rfl ?_
                                                refine wl_pure tt_ok rfl rfl ?_
                                                replace h := bsome h; obtain ⟨v150, h, hg150⟩ := h
                                                refine wl_split (t := 146) rfl (fun hc => ?_) (fun hc => ?_)
                                                · replace h := ct hc h
                                                  refine wl_run rfl ?_
                                                  refine wl_pure tt_ok rfl rfl ?_
                                                  replace h := bsome h; obtain ⟨v148, x148, h⟩ := h
                                                  refine wl_run rfl ?_
                                                  refine wl_cq Try.call20 rfl rfl rfl (q_pf (k_codec_Reader_Var_nil0 x148) (fun _ _ => trivial)) rfl ?_
                                                  refine wl_run rfl ?_
                                                  refine wl_pure (v := .bool (v148 == (0 : Int))) tt_ok rfl rfl ?_
                                                  simp only [Option.some.injEq, Prod.mk.injEq] at h
                                                  obtain rfl := h
                                                  have h := hg150; clear hg150
                                                  refine wl_pure (v := .bool (v148 == (0 : Int))) tt_ok rfl rfl ?_
                                                  refine wl_pure tt_ok rfl rfl ?_
                                                  replace h := bsome h; obtain ⟨v155, h, hg155⟩ := h
                                                  refine wl_split (t := 151) rfl (fun hc => ?_) (fun hc => ?_)
                                                  · replace h := ct hc h
                                                    refine wl_run rfl ?_
                                                    refine wl_pure tt_ok rfl rfl ?_
                                                    replace h := bsome h; obtain ⟨v153, x153, h⟩ := h
                                                    refine wl_run rfl ?_
                                                    refine wl_cq Try.call22 rfl rfl rfl (q_pf (k_codec_Reader_Text_nil0 x153) (fun _ _ => trivial)) rfl ?_
                                                    refine wl_run rfl ?_
                                                    refine wl_val (v := .bool (v153 == ([] : List UInt8))) (val_seq tt_ok rfl rfl) rfl ?_
                                                    simp only [Option.some.injEq, Prod.mk.injEq] at h
                                                    obtain rfl := h
                                                    have h := hg155; clear hg155
                                                    refine wl_pure (v := .bool (v153 == ([] : List UInt8))) tt_ok rfl rfl ?_
                                                    refine wl_pure tt_ok rfl rfl ?_
                                                    replace h := bsome h; obtain ⟨v160, h, hg160⟩ := h
                                                    refine wl_split (t := 156) rfl (fun hc => ?_) (fun hc => ?_)
                                                    · replace h := ct hc h
                                                      refine wl_run rfl ?_
                                                      refine wl_pure tt_ok rfl rfl ?_
                                                      replace h := bsome h; obtain ⟨v158, x158, h⟩ := h
                                                      refine wl_run rfl ?_
                                                      refine wl_cq Try.call19 rfl rfl rfl (q_pf (k_codec_Reader_I32_nil0 x158) (fun _ _ => trivial)) rfl ?_
                                                      refine wl_run rfl ?_
                                                      refine wl_pure (v := .bool (v158 == (0 : Int))) tt_ok rfl rfl ?_
                                                      simp only [Option.some.injEq, Prod.mk.injEq] at h
                                                      obtain rfl := h
                                                      have h := hg160; clear hg160
                                                      refine wl_pure (v := .bool (v158 == (0 : Int))) tt_ok rfl rfl ?_
                                                      refine wl_pure tt_ok rfl rfl ?_
                                                      replace h := bsome h; obtain ⟨v165, h, hg165⟩ := h
                                                      refine wl_split (t := 161) rfl (fun hc => ?_) (fun hc => ?_)
                                                      · replace h := ct hc h
                                                        refine wl_run rfl ?_
                                                        refine wl_pure tt_ok rfl rfl ?_
                                                        replace h := bsome h; obtain ⟨v163, x163, h⟩ := h
                                                        refine wl_run rfl ?_
                                                        refine wl_cq Try.call24 rfl rfl rfl (q_pf (k_codec_Reader_Err_nil0 x163) (fun _ _ => trivial)) rfl ?_
                                                        refine wl_run rfl ?_
                                                        refine wl_pure (v := .bool (v163 == (1 : Int))) tt_ok rfl rfl ?_
                                                        simp only [Option.some.injEq, Prod.mk.injEq] at h
                                                        obtain rfl := h
                                                        have h := hg165; clear hg165
                                                        refine wl_pure (v := .bool (v163 == (1 : Int))) tt_ok rfl rfl ?_
                                                        refine wl_pure tt_ok rfl rfl ?_
                                                        replace h := bsome h; obtain ⟨v170, h, hg170⟩ := h
                                                        refine wl_split (t := 166) rfl (fun hc => ?_) (fun hc => ?_)
                                                        · replace h := ct hc h
                                                          refine wl_run rfl ?_
                                                          refine wl_pure tt_ok rfl rfl ?_
                                                          replace h := bsome h; obtain ⟨v168, x168, h⟩ := h
                                                          refine wl_run rfl ?_
                                                          refine wl_cq Try.call25 rfl rfl rfl (q_pf (k_codec_Reader_Rest_nil0 x168) (fun _ _ => trivial)) rfl ?_
                                                          refine wl_run rfl ?_
                                                          refine wl_val (v := .bool (v168 == ([] : List UInt8))) (val_seq tt_ok rfl rfl) rfl ?_
                                                          simp only [Option.some.injEq, Prod.mk.injEq] at h
                                                          obtain rfl := h
                                                          have h := hg170; clear hg170
                                                          refine wl_pure (v := .bool (v168 == ([] : List UInt8))) tt_ok rfl rfl ?_
                                                          refine wl_pure tt_ok rfl rfl ?_
                                                          replace h := bsome h; obtain ⟨v173, h, hg173⟩ := h
                                                          refine wl_split (t := 171) rfl (fun hc => ?_) (fun hc => ?_)
                                                          · replace h := ct hc h
                                                            replace h := bsome h; obtain ⟨v172, x172, h⟩ := h
                                                            refine wl_run rfl ?_
                                                            refine wl_cq Try.call9 rfl rfl rfl (q_pf (k_hindcastlaw02_works x172) (fun _ _ => trivial)) rfl ?_
                                                            simp only [Option.some.injEq, Prod.mk.injEq] at h
                                                            obtain rfl := h
                                                            have h := hg173; clear hg173
                                                            refine wl_pure (v := .bool v172) tt_ok rfl rfl ?_
                                                            refine wl_pure tt_ok rfl rfl ?_
                                                            refine wl_nil ?_
                                                            refine wx_then ?_
                                                            refine wc_ret ?_
                                                            simp only [Option.some.injEq] at h
                                                            obtain rfl := h
                                                            exact wx_pf tt_ok (.inl rfl) Try.results5 (Res.tmp rfl Res.nil) rfl
                                                          · replace h := cf hc h
                                                            refine wl_skip rfl rfl ?_
                                                            simp only [Option.some.injEq, Prod.mk.injEq] at h
                                                            obtain rfl := h
                                                            have h := hg173; clear hg173
                                                            refine wl_pure (v := .bool false) tt_ok rfl rfl ?_
                                                            refine wl_pure tt_ok rfl rfl ?_
                                                            refine wl_nil ?_
                                                            refine wx_then ?_
                                                            refine wc_ret ?_
                                                            simp only [Option.some.injEq] at h
                                                            obtain rfl := h
                                                            exact wx_pf tt_ok (.inl rfl) Try.results5 (Res.tmp rfl Res.nil) rfl
                                                        · replace h := cf hc h
                                                          refine wl_skip rfl rfl ?_
                                                          refine wl_skip rfl rfl ?_
                                                          refine wl_skip rfl rfl ?_
                                                          simp only [Option.some.injEq, Prod.mk.injEq] at h
                                                          obtain rfl := h
                                                          have h := hg170; clear hg170
                                                          refine wl_pure (v := .bool false) tt_ok rfl rfl ?_
                                                          refine wl_pure tt_ok rfl rfl ?_
                                                          replace h := bsome h; obtain ⟨v173, h, hg173⟩ := h
                                                          replace h := cf rfl h
                                                          refine wl_skip rfl rfl ?_
                                                          simp only [Option.some.injEq, Prod.mk.injEq] at h
                                                          obtain rfl := h
                                                          have h := hg173; clear hg173
                                                          refine wl_pure (v := .bool false) tt_ok rfl rfl ?_
                                                          refine wl_pure tt_ok rfl rfl ?_
                                                          refine wl_nil ?_
                                                          refine wx_then ?_
                                                          refine wc_ret ?_
                                                          simp only [Option.some.injEq] at h
                                                          obtain rfl := h
                                                          exact wx_pf tt_ok (.inl rfl) Try.results5 (Res.tmp rfl Res.nil) rfl
                                                      · replace h := cf hc h
                                                        refine wl_skip rfl rfl ?_
                                                        refine wl_skip rfl rfl ?_
                                                        refine wl_skip rfl rfl ?_
                                                        simp only [Option.some.injEq, Prod.mk.injEq] at h
                                                        obtain rfl := h
                                                        have h := hg165; clear hg165
                                                        refine wl_pure (v := .bool false) tt_ok rfl rfl ?_
                                                        refine wl_pure tt_ok rfl rfl ?_
                                                        replace h := bsome h; obtain ⟨v170, h, hg170⟩ := h
                                                        replace h := cf rfl h
                                                        refine wl_skip rfl rfl ?_
                                                        refine wl_skip rfl rfl ?_
                                                        refine wl_skip rfl rfl ?_
                                                        simp only [Option.some.injEq, Prod.mk.injEq] at h
                                                        obtain rfl := h
                                                        have h := hg170; clear hg170
                                                        refine wl_pure (v := .bool false) tt_ok rfl rfl ?_
                                                        refine wl_pure tt_ok rfl rfl ?_
                                                        replace h := bsome h; obtain ⟨v173, h, hg173⟩ := h
                                                        replace h := cf rfl h
                                                        refine wl_skip rfl rfl ?_
                                                        simp only [Option.some.injEq, Prod.mk.injEq] at h
                                                        obtain rfl := h
                                                        have h := hg173; clear hg173
                                                        refine wl_pure (v := .bool false) tt_ok rfl rfl ?_
                                                        refine wl_pure tt_ok rfl rfl ?_
                                                        refine wl_nil ?_
                                                        refine wx_then ?_
                                                        refine wc_ret ?_
                                                        simp only [Option.some.injEq] at h
                                                        obtain rfl := h
                                                        exact wx_pf tt_ok (.inl rfl) Try.results5 (Res.tmp rfl Res.nil) rfl
                                                    · replace h := cf hc h
                                                      refine wl_skip rfl rfl ?_
                                                      refine wl_skip rfl rfl ?_
                                                      refine wl_skip rfl rfl ?_
                                                      simp only [Option.some.injEq, Prod.mk.injEq] at h
                                                      obtain rfl := h
                                                      have h := hg160; clear hg160
                                                      refine wl_pure (v := .bool false) tt_ok rfl rfl ?_
                                                      refine wl_pure tt_ok rfl rfl ?_
                                                      replace h := bsome h; obtain ⟨v165, h, hg165⟩ := h
                                                      replace h := cf rfl h
                                                      refine wl_skip rfl rfl ?_
                                                      refine wl_skip rfl rfl ?_
                                                      refine wl_skip rfl rfl ?_
                                                      simp only [Option.some.injEq, Prod.mk.injEq] at h
                                                      obtain rfl := h
                                                      have h := hg165; clear hg165
                                                      refine wl_pure (v := .bool false) tt_ok rfl rfl ?_
                                                      refine wl_pure tt_ok rfl rfl ?_
                                                      replace h := bsome h; obtain ⟨v170, h, hg170⟩ := h
                                                      replace h := cf rfl h
                                                      refine wl_skip rfl rfl ?_
                                                      refine wl_skip rfl rfl ?_
                                                      refine wl_skip rfl rfl ?_
                                                      simp only [Option.some.injEq, Prod.mk.injEq] at h
                                                      obtain rfl := h
                                                      have h := hg170; clear hg170
                                                      refine wl_pure (v := .bool false) tt_ok rfl rfl ?_
                                                      refine wl_pure tt_ok rfl rfl ?_
                                                      replace h := bsome h; obtain ⟨v173, h, hg173⟩ := h
                                                      replace h := cf rfl h
                                                      refine wl_skip rfl rfl ?_
                                                      simp only [Option.some.injEq, Prod.mk.injEq] at h
                                                      obtain rfl := h
                                                      have h := hg173; clear hg173
                                                      refine wl_pure (v := .bool false) tt_ok rfl rfl ?_
                                                      refine wl_pure tt_ok rfl rfl ?_
                                                      refine wl_nil ?_
                                                      refine wx_then ?_
                                                      refine wc_ret ?_
                                                      simp only [Option.some.injEq] at h
                                                      obtain rfl := h
                                                      exact wx_pf tt_ok (.inl rfl) Try.results5 (Res.tmp rfl Res.nil) rfl
                                                  · replace h := cf hc h
                                                    refine wl_skip rfl rfl ?_
                                                    refine wl_skip rfl rfl ?_
                                                    refine wl_skip rfl rfl ?_
                                                    simp only [Option.some.injEq, Prod.mk.injEq] at h
                                                    obtain rfl := h
                                                    have h := hg155; clear hg155
                                                    refine wl_pure (v := .bool false) tt_ok rfl rfl ?_
                                                    refine wl_pure tt_ok rfl rfl ?_
                                                    replace h := bsome h; obtain ⟨v160, h, hg160⟩ := h
                                                    replace h := cf rfl h
                                                    refine wl_skip rfl rfl ?_
                                                    refine wl_skip rfl rfl ?_
                                                    refine wl_skip rfl rfl ?_
                                                    simp only [Option.some.injEq, Prod.mk.injEq] at h
                                                    obtain rfl := h
                                                    have h := hg160; clear hg160
                                                    refine wl_pure (v := .bool false) tt_ok rfl rfl ?_
                                                    refine wl_pure tt_ok rfl rfl ?_
                                                    replace h := bsome h; obtain ⟨v165, h, hg165⟩ := h
                                                    replace h := cf rfl h
                                                    refine wl_skip rfl rfl ?_
                                                    refine wl_skip rfl rfl ?_
                                                    refine wl_skip rfl rfl ?_
                                                    simp only [Option.some.injEq, Prod.mk.injEq] at h
                                                    obtain rfl := h
                                                    have h := hg165; clear hg165
                                                    refine wl_pure (v := .bool false) tt_ok rfl rfl ?_
                                                    refine wl_pure tt_ok rfl rfl ?_
                                                    replace h := bsome h; obtain ⟨v170, h, hg170⟩ := h
                                                    replace h := cf rfl h
                                                    refine wl_skip rfl rfl ?_
                                                    refine wl_skip rfl rfl ?_
                                                    refine wl_skip rfl rfl ?_
                                                    simp only [Option.some.injEq, Prod.mk.injEq] at h
                                                    obtain rfl := h
                                                    have h := hg170; clear hg170
                                                    refine wl_pure (v := .bool false) tt_ok rfl rfl ?_
                                                    refine wl_pure tt_ok rfl rfl ?_
                                                    replace h := bsome h; obtain ⟨v173, h, hg173⟩ := h
                                                    replace h := cf rfl h
                                                    refine wl_skip rfl rfl ?_
                                                    simp only [Option.some.injEq, Prod.mk.injEq] at h
                                                    obtain rfl := h
                                                    have h := hg173; clear hg173
                                                    refine wl_pure (v := .bool false) tt_ok rfl rfl ?_
                                                    refine wl_pure tt_ok rfl rfl ?_
                                                    refine wl_nil ?_
                                                    refine wx_then ?_
                                                    refine wc_ret ?_
                                                    simp only [Option.some.injEq] at h
                                                    obtain rfl := h
                                                    exact wx_pf tt_ok (.inl rfl) Try.results5 (Res.tmp rfl Res.nil) rfl
                                                · replace h := cf hc h
                                                  refine wl_skip rfl rfl ?_
                                                  refine wl_skip rfl rfl ?_
                                                  refine wl_skip rfl rfl ?_
                                                  simp only [Option.some.injEq, Prod.mk.injEq] at h
                                                  obtain rfl := h
                                                  have h := hg150; clear hg150
                                                  refine wl_pure (v := .bool false) tt_ok rfl rfl ?_
                                                  refine wl_pure tt_ok rfl rfl ?_
                                                  replace h := bsome h; obtain ⟨v155, h, hg155⟩ := h
                                                  replace h := cf rfl h
                                                  refine wl_skip rfl rfl ?_
                                                  refine wl_skip rfl rfl ?_
                                                  refine wl_skip rfl rfl ?_
                                                  simp only [Option.some.injEq, Prod.mk.injEq] at h
                                                  obtain rfl := h
                                                  have h := hg155; clear hg155
                                                  refine wl_pure (v := .bool false) tt_ok rfl rfl ?_
                                                  refine wl_pure tt_ok rfl rfl ?_
                                                  replace h := bsome h; obtain ⟨v160, h, hg160⟩ := h
                                                  replace h := cf rfl h
                                                  refine wl_skip rfl rfl ?_
                                                  refine wl_skip rfl rfl ?_
                                                  refine wl_skip rfl rfl ?_
                                                  simp only [Option.some.injEq, Prod.mk.injEq] at h
                                                  obtain rfl := h
                                                  have h := hg160; clear hg160
                                                  refine wl_pure (v := .bool false) tt_ok rfl rfl ?_
                                                  refine wl_pure tt_ok rfl rfl ?_
                                                  replace h := bsome h; obtain ⟨v165, h, hg165⟩ := h
                                                  replace h := cf rfl h
                                                  refine wl_skip rfl rfl ?_
                                                  refine wl_skip rfl rfl ?_
                                                  refine wl_skip rfl rfl ?_
                                                  simp only [Option.some.injEq, Prod.mk.injEq] at h
                                                  obtain rfl := h
                                                  have h := hg165; clear hg165
                                                  refine wl_pure (v := .bool false) tt_ok rfl rfl ?_
                                                  refine wl_pure tt_ok rfl rfl ?_
                                                  replace h := bsome h; obtain ⟨v170, h, hg170⟩ := h
                                                  replace h := cf rfl h
                                                  refine wl_skip rfl rfl ?_
                                                  refine wl_skip rfl rfl ?_
                                                  refine wl_skip rfl rfl ?_
                                                  simp only [Option.some.injEq, Prod.mk.injEq] at h
                                                  obtain rfl := h
                                                  have h := hg170; clear hg170
                                                  refine wl_pure (v := .bool false) tt_ok rfl rfl ?_
                                                  refine wl_pure tt_ok rfl rfl ?_
                                                  replace h := bsome h; obtain ⟨v173, h, hg173⟩ := h
                                                  replace h := cf rfl h
                                                  refine wl_skip rfl rfl ?_
                                                  simp only [Option.some.injEq, Prod.mk.injEq] at h
                                                  obtain rfl := h
                                                  have h := hg173; clear hg173
                                                  refine wl_pure (v := .bool false) tt_ok rfl rfl ?_
                                                  refine wl_pure tt_ok rfl rfl ?_
                                                  refine wl_nil ?_
                                                  refine wx_then ?_
                                                  refine wc_ret ?_
                                                  simp only [Option.some.injEq] at h
                                                  obtain rfl := h
                                                  exact wx_pf tt_ok (.inl rfl) Try.results5 (Res.tmp rfl Res.nil) rfl
                                              · replace h := cf hc h
                                                refine wl_skip rfl rfl ?_
                                                refine wl_skip rfl rfl ?_
                                                refine wl_skip rfl rfl ?_
                                                simp only [Option.some.injEq, Prod.mk.injEq] at h
                                                obtain rfl := h
                                                have h := hg145; clear hg145
                                                refine wl_pure (v := .bool false) tt_ok rfl rfl ?_
                                                refine wl_pure tt_ok rfl rfl ?_
                                                replace h := bsome h; obtain ⟨v150, h, hg150⟩ := h
                                                replace h := cf rfl h
                                                refine wl_skip rfl rfl ?_
                                                refine wl_skip rfl rfl ?_
                                                refine wl_skip rfl rfl ?_
                                                simp only [Option.some.injEq, Prod.mk.injEq] at h
                                                obtain rfl := h
                                                have h := hg150; clear hg150
                                                refine wl_pure (v := .bool false) tt_ok rfl rfl ?_
                                                refine wl_pure tt_ok rfl rfl ?_
                                                replace h := bsome h; obtain ⟨v155, h, hg155⟩ := h
                                                replace h := cf rfl h
                                                refine wl_skip rfl rfl ?_
                                                refine wl_skip rfl rfl ?_
                                                refine wl_skip rfl rfl ?_
                                                simp only [Option.some.injEq, Prod.mk.injEq] at h
                                                obtain rfl := h
                                                have h := hg155; clear hg155
                                                refine wl_pure (v := .bool false) tt_ok rfl rfl ?_
                                                refine wl_pure tt_ok rfl rfl ?_
                                                replace h := bsome h; obtain ⟨v160, h, hg160⟩ := h
                                                replace h := cf rfl h
                                                refine wl_skip rfl rfl ?_
                                                refine wl_skip rfl rfl ?_
                                                refine wl_skip rfl rfl ?_
                                                simp only [Option.some.injEq, Prod.mk.injEq] at h
                                                obtain rfl := h
                                                have h := hg160; clear hg160
                                                refine wl_pure (v := .bool false) tt_ok rfl rfl ?_
                                                refine wl_pure tt_ok rfl rfl ?_
                                                replace h := bsome h; obtain ⟨v165, h, hg165⟩ := h
                                                replace h := cf rfl h
                                                refine wl_skip rfl rfl ?_
                                                refine wl_skip rfl rfl ?_
                                                refine wl_skip rfl rfl ?_
                                                simp only [Option.some.injEq, Prod.mk.injEq] at h
                                                obtain rfl := h
                                                have h := hg165; clear hg165
                                                refine wl_pure (v := .bool false) tt_ok rfl rfl ?_
                                                refine wl_pure tt_ok rfl rfl ?_
                                                replace h := bsome h; obtain ⟨v170, h, hg170⟩ := h
                                                replace h := cf rfl h
                                                refine wl_skip rfl rfl ?_
                                                refine wl_skip rfl rfl ?_
                                                refine wl_skip rfl rfl ?_
                                                simp only [Option.some.injEq, Prod.mk.injEq] at h
                                                obtain rfl := h
                                                have h := hg170; clear hg170
                                                refine wl_pure (v := .bool false) tt_ok rfl rfl ?_
                                                refine wl_pure tt_ok rfl rfl ?_
                                                replace h := bsome h; obtain ⟨v173, h, hg173⟩ := h
                                                replace h := cf rfl h
                                                refine wl_skip rfl rfl ?_
                                                simp only [Option.some.injEq, Prod.mk.injEq] at h
                                                obtain rfl := h
                                                have h := hg173; clear hg173
                                                refine wl_pure (v := .bool false) tt_ok rfl rfl ?_
                                                refine wl_pure tt_ok rfl rfl ?_
                                                refine wl_nil ?_
                                                refine wx_then ?_
                                                refine wc_ret ?_
                                                simp only [Option.some.injEq] at h
                                                obtain rfl := h
                                                exact wx_pf tt_ok (.inl rfl) Try.results5 (Res.tmp rfl Res.nil) rfl

theorem k_hindcastlaw02_get {F : Nat} {p0 : T_codec_Reader} {p0b p0t : Nat} {p1 : T_hindcastlaw02_Item} {r0 : T_codec_Reader} {r1 : Bool} (h : m_hindcastlaw02_get F p0 p1 = some (r0, r1)) :
    SpD Try.prog 32 [.pointer (some ⟨p0b, 0, none⟩), .agg #[.int .u8 p1.Kind, .int .u64 p1.N, .string ⟨p1.S.toArray⟩]] (⟨p0b, [.string ⟨p0.left.s.toArray⟩, .int .i64 p0.left.e], p0t, (0, 0)⟩ :: []) (fun w => True) (fun v D => v = .bool r1 ∧ D = fun F => (⟨p0b, [.string ⟨r0.left.s.toArray⟩, .int .i64 r0.left.e], p0t, (0, 0)⟩ :: F)) := by
  unfold m_hindcastlaw02_get at h
  refine sp_of_wc Try.func32 rfl Try.ntmps32 rfl rfl (fun w0 hR => ?_)
  refine wc_seq ?_
  refine wc_region ?_
  refine wl_box rfl rfl rfl (fun b3 => ?_)
  refine wl_pure tt_ok rfl rfl ?_
  refine wl_nil ?_
  refine wx_then ?_
  refine wc_seq ?_
  refine wc_seq ?_
  refine wc_region ?_
  refine wl_pure (v := .pointer (some ⟨b3, 0, none⟩)) tt_ok rfl rfl ?_
  refine wl_val (v := .int .u8 p1.Kind) (val_load tt_ok rfl (List.Mem.head _) rfl) rfl ?_
  refine wl_pure (v := .int .u8 (Int.tmod p1.Kind 7)) tt_ok rfl rfl ?_
  refine wl_nil ?_
  refine wx_then ?_
  refine wc_block ?_
  refine wc_seq ?_
  refine wc_region ?_
  refine wl_pure (v := .bool ((Int.tmod p1.Kind 7) == (0 : Int))) tt_ok rfl rfl ?_
  refine wl_pure tt_ok rfl rfl ?_
  refine wl_nil ?_
  refine wx_then ?_
  refine wc_cond rfl (fun hc => ?_) (fun hc => ?_)
  · replace h := ct hc h
    refine wc_seq ?_
    refine wc_k2 (Ls := (⟨b3, [.int .u8 p1.Kind, .int .u64 p1.N, .string ⟨p1.S.toArray⟩], 32, (0, 0)⟩ :: [])) [1] [] [0, 1, 0, 4, 12, 31, 63] [0, 2, 3, 4, 1, 5, 6] (by kernel_rfl) (by kernel_rfl) (by kernel_rfl) ?_
    refine k_val rfl rfl rfl (pSub (pCons Sel.hc pNil)) (stepV_ok tt_ok rfl) rfl ?_
    refine k_val (v := .pointer (some ⟨b3, 1, none⟩)) rfl rfl rfl (pSub (pCons Sel.hc pNil)) (stepV_ok tt_ok rfl) rfl ?_
    refine k_val (v := .int .u64 p1.N) rfl rfl rfl (pSub (pCons Sel.hc pNil)) (val_load tt_ok rfl (List.Mem.head _) rfl) rfl ?_
    refine k_val (v := .int .u8 (IntKind.wrap .u8 p1.N)) rfl rfl rfl (pSub (pCons Sel.hc pNil)) (stepV_ok tt_ok rfl) rfl ?_
    replace h := bsome h; obtain ⟨⟨o11_0, v11⟩, x11, h⟩ := h; try dsimp only at h
    refine k_cs rfl rfl rfl Try.call14 rfl rfl rfl (s_sp (k_codec_Reader_U8 x11) (pCons (Sel.sc Sel.hc) pNil) (fun _ _ => trivial)) rfl (.inr (by rintro _ _ ⟨_, ⟨rfl, rfl⟩, rfl⟩; exact ⟨_, (pCons (Sel.sc Sel.hc) pNil)⟩)) ?_
    rintro _ _ ⟨_, ⟨rfl, rfl⟩, rfl⟩
    refine k_val (v := .bool (v11 == (IntKind.wrap .u8 p1.N))) rfl rfl rfl (pSub (pCons (Sel.sc Sel.hc) pNil)) (stepV_ok tt_ok rfl) rfl ?_
    refine k_val rfl rfl rfl (pSub (pCons (Sel.sc Sel.hc) pNil)) (stepV_ok tt_ok rfl) rfl ?_
    refine k_end ?_
    refine wx_then ?_
    refine wc_ret ?_
    refine wx_block_ret ?_
    refine wx_then_ret ?_
    simp only [Option.some.injEq, Prod.mk.injEq] at h
    obtain ⟨rfl, rfl⟩ := h
    exact wx_spD tt_ok (.inl rfl) Try.results32 (Res.tmp rfl Res.nil) ⟨rfl, rfl⟩ (fun F => by simp) (pSub (pCons Sel.hc pNil))
  · replace h := cf hc h
    refine wc_seq ?_
    refine wc_region ?_
    refine wl_pure (v := .bool ((Int.tmod p1.Kind 7) == (1 : Int))) tt_ok rfl rfl ?_
    refine wl_pure tt_ok rfl rfl ?_
    refine wl_nil ?_
    refine wx_then ?_
    refine wc_cond rfl (fun hc => ?_) (fun hc => ?_)
    · replace h := ct hc h
      refine wc_seq ?_
      refine wc_k2 (Ls := (⟨b3, [.int .u8 p1.Kind, .int .u64 p1.N, .string ⟨p1.S.toArray⟩], 32, (0, 0)⟩ :: [])) [1] [] [0, 1, 0, 4, 12, 31, 63] [0, 2, 3, 4, 1, 5, 6] (by kernel_rfl) (by kernel_rfl) (by kernel_rfl) ?_
      refine k_val rfl rfl rfl (pSub (pCons Sel.hc pNil)) (stepV_ok tt_ok rfl) rfl ?_
      refine k_val (v := .pointer (some ⟨b3, 1, none⟩)) rfl rfl rfl (pSub (pCons Sel.hc pNil)) (stepV_ok tt_ok rfl) rfl ?_
      refine k_val (v := .int .u64 p1.N) rfl rfl rfl (pSub (pCons Sel.hc pNil)) (val_load tt_ok rfl (List.Mem.head _) rfl) rfl ?_
      refine k_val (v := .int .u16 (IntKind.wrap .u16 p1.N)) rfl rfl rfl (pSub (pCons Sel.hc pNil)) (stepV_ok tt_ok rfl) rfl ?_
      replace h := bsome h; obtain ⟨⟨o19_0, v19⟩, x19, h⟩ := h; try dsimp only at h
      refine k_cs rfl rfl rfl Try.call16 rfl rfl rfl (s_sp (k_codec_Reader_U16 x19) (pCons (Sel.sc Sel.hc) pNil) (fun _ _ => trivial)) rfl (.inr (by rintro _ _ ⟨_, ⟨rfl, rfl⟩, rfl⟩; exact ⟨_, (pCons (Sel.sc Sel.hc) pNil)⟩)) ?_
      rintro _ _ ⟨_, ⟨rfl, rfl⟩, rfl⟩
      refine k_val (v := .bool (v19 == (IntKind.wrap .u16 p1.N))) rfl rfl rfl (pSub (pCons (Sel.sc Sel.hc) pNil)) (stepV_ok tt_ok rfl) rfl ?_
      refine k_val rfl rfl rfl (pSub (pCons (Sel.sc Sel.hc) pNil)) (stepV_ok tt_ok rfl) rfl ?_
      refine k_end ?_
      refine wx_then ?_
      refine wc_ret ?_
      refine wx_block_ret ?_
      refine wx_then_ret ?_
      simp only [Option.some.injEq, Prod.mk.injEq] at h
      obtain ⟨rfl, rfl⟩ := h
      exact wx_spD tt_ok (.inl rfl) Try.results32 (Res.tmp rfl Res.nil) ⟨rfl, rfl⟩ (fun F => by simp) (pSub (pCons Sel.hc pNil))
    · replace h := cf hc h
      refine wc_seq ?_
      refine wc_region ?_
      refine wl_pure (v := .bool ((Int.tmod p1.Kind 7) == (2 : Int))) tt_ok rfl rfl ?_
      refine wl_pure tt_ok rfl rfl ?_
      refine wl_nil ?_
      refine wx_then ?_
      refine wc_cond rfl (fun hc => ?_) (fun hc => ?_)
      · replace h := ct hc h
        refine wc_seq ?_
        refine wc_k2 (Ls := (⟨b3, [.int .u8 p1.Kind, .int .u64 p1.N, .string ⟨p1.S.toArray⟩], 32, (0, 0)⟩ :: [])) [1] [] [0, 1, 0, 4, 12, 31, 63] [0, 2, 3, 4, 1, 5, 6] (by kernel_rfl) (by kernel_rfl) (by kernel_rfl) ?_
        refine k_val rfl rfl rfl (pSub (pCons Sel.hc pNil)) (stepV_ok tt_ok rfl) rfl ?_
        refine k_val (v := .pointer (some ⟨b3, 1, none⟩)) rfl rfl rfl (pSub (pCons Sel.hc pNil)) (stepV_ok tt_ok rfl) rfl ?_
        refine k_val (v := .int .u64 p1.N) rfl rfl rfl (pSub (pCons Sel.hc pNil)) (val_load tt_ok rfl (List.Mem.head _) rfl) rfl ?_
        refine k_val (v := .int .u32 (IntKind.wrap .u32 p1.N)) rfl rfl rfl (pSub (pCons Sel.hc pNil)) (stepV_ok tt_ok rfl) rfl ?_
        replace h := bsome h; obtain ⟨⟨o27_0, v27⟩, x27, h⟩ := h; try dsimp only at h
        refine k_cs rfl rfl rfl Try.call17 rfl rfl rfl (s_sp (k_codec_Reader_U32 x27) (pCons (Sel.sc Sel.hc) pNil) (fun _ _ => trivial)) rfl (.inr (by rintro _ _ ⟨_, ⟨rfl, rfl⟩, rfl⟩; exact ⟨_, (pCons (Sel.sc Sel.hc) pNil)⟩)) ?_
        rintro _ _ ⟨_, ⟨rfl, rfl⟩, rfl⟩
        refine k_val (v := .bool (v27 == (IntKind.wrap .u32 p1.N))) rfl rfl rfl (pSub (pCons (Sel.sc Sel.hc) pNil)) (stepV_ok tt_ok rfl) rfl ?_
        refine k_val rfl rfl rfl (pSub (pCons (Sel.sc Sel.hc) pNil)) (stepV_ok tt_ok rfl) rfl ?_
        refine k_end ?_
        refine wx_then ?_
        refine wc_ret ?_
        refine wx_block_ret ?_
        refine wx_then_ret ?_
        simp only [Option.some.injEq, Prod.mk.injEq] at h
        obtain ⟨rfl, rfl⟩ := h
        exact wx_spD tt_ok (.inl rfl) Try.results32 (Res.tmp rfl Res.nil) ⟨rfl, rfl⟩ (fun F => by simp) (pSub (pCons Sel.hc pNil))
      · replace h := cf hc h
        refine wc_seq ?_
        refine wc_region ?_
        refine wl_pure (v := .bool ((Int.tmod p1.Kind 7) == (3 : Int))) tt_ok rfl rfl ?_
        refine wl_pure tt_ok rfl rfl ?_
        refine wl_nil ?_
        refine wx_then ?_
        refine wc_cond rfl (fun hc => ?_) (fun hc => ?_)
        · replace h := ct hc h
          refine wc_seq ?_
          refine wc_k2 (Ls := (⟨b3, [.int .u8 p1.Kind, .int .u64 p1.N, .string ⟨p1.S.toArray⟩], 32, (0, 0)⟩ :: [])) [1] [] [0, 1, 0, 4, 15, 31] [0, 2, 3, 1, 4, 5] (by kernel_rfl) (by kernel_rfl) (by kernel_rfl) ?_
          refine k_val rfl rfl rfl (pSub (pCons Sel.hc pNil)) (stepV_ok tt_ok rfl) rfl ?_
          refine k_val (v := .pointer (some ⟨b3, 1, none⟩)) rfl rfl rfl (pSub (pCons Sel.hc pNil)) (stepV_ok tt_ok rfl) rfl ?_
          refine k_val (v := .int .u64 p1.N) rfl rfl rfl (pSub (pCons Sel.hc pNil)) (val_load tt_ok rfl (List.Mem.head _) rfl) rfl ?_
          replace h := bsome h; obtain ⟨⟨o35_0, v35⟩, x35, h⟩ := h; try dsimp only at h
          refine k_cs rfl rfl rfl Try.call18 rfl rfl rfl (s_sp (k_codec_Reader_U64 x35) (pCons (Sel.sc Sel.hc) pNil) (fun _ _ => trivial)) rfl (.inr (by rintro _ _ ⟨_, ⟨rfl, rfl⟩, rfl⟩; exact ⟨_, (pCons (Sel.sc Sel.hc) pNil)⟩)) ?_
          rintro _ _ ⟨_, ⟨rfl, rfl⟩, rfl⟩
          refine k_val (v := .bool (v35 == p1.N)) rfl rfl rfl (pSub (pCons (Sel.sc Sel.hc) pNil)) (stepV_ok tt_ok rfl) rfl ?_
          refine k_val rfl rfl rfl (pSub (pCons (Sel.sc Sel.hc) pNil)) (stepV_ok tt_ok rfl) rfl ?_
          refine k_end ?_
          refine wx_then ?_
          refine wc_ret ?_
          refine wx_block_ret ?_
          refine wx_then_ret ?_
          simp only [Option.some.injEq, Prod.mk.injEq] at h
          obtain ⟨rfl, rfl⟩ := h
          exact wx_spD tt_ok (.inl rfl) Try.results32 (Res.tmp rfl Res.nil) ⟨rfl, rfl⟩ (fun F => by simp) (pSub (pCons Sel.hc pNil))
        · replace h := cf hc h
          refine wc_seq ?_
          refine wc_region ?_
          refine wl_pure (v := .bool ((Int.tmod p1.Kind 7) == (4 : Int))) tt_ok rfl rfl ?_
          refine wl_pure tt_ok rfl rfl ?_
          refine wl_nil ?_
          refine wx_then ?_
          refine wc_cond rfl (fun hc => ?_) (fun hc => ?_)
          · replace h := ct hc h
            refine wc_seq ?_
            refine wc_k2 (Ls := (⟨b3, [.int .u8 p1.Kind, .int .u64 p1.N, .string ⟨p1.S.toArray⟩], 32, (0, 0)⟩ :: [])) [1] [] [0, 1, 0, 4, 12, 31, 63] [0, 2, 3, 4, 1, 5, 6] (by kernel_rfl) (by kernel_rfl) (by kernel_rfl) ?_
            refine k_val rfl rfl rfl (pSub (pCons Sel.hc pNil)) (stepV_ok tt_ok rfl) rfl ?_
            refine k_val (v := .pointer (some ⟨b3, 1, none⟩)) rfl rfl rfl (pSub (pCons Sel.hc pNil)) (stepV_ok tt_ok rfl) rfl ?_
            refine k_val (v := .int .u64 p1.N) rfl rfl rfl (pSub (pCons Sel.hc pNil)) (val_load tt_ok rfl (List.Mem.head _) rfl) rfl ?_
            refine k_val (v := .int .i32 (IntKind.wrap .i32 p1.N)) rfl rfl rfl (pSub (pCons Sel.hc pNil)) (stepV_ok tt_ok rfl) rfl ?_
            replace h := bsome h; obtain ⟨⟨o42_0, v42⟩, x42, h⟩ := h; try dsimp only at h
            refine k_cs rfl rfl rfl Try.call19 rfl rfl rfl (s_sp (k_codec_Reader_I32 x42) (pCons (Sel.sc Sel.hc) pNil) (fun _ _ => trivial)) rfl (.inr (by rintro _ _ ⟨_, ⟨rfl, rfl⟩, rfl⟩; exact ⟨_, (pCons (Sel.sc Sel.hc) pNil)⟩)) ?_
            rintro _ _ ⟨_, ⟨rfl, rfl⟩, rfl⟩
            refine k_val (v := .bool (v42 == (IntKind.wrap .i32 p1.N))) rfl rfl rfl (pSub (pCons (Sel.sc Sel.hc) pNil)) (stepV_ok tt_ok rfl) rfl ?_
            refine k_val rfl rfl rfl (pSub (pCons (Sel.sc Sel.hc) pNil)) (stepV_ok tt_ok rfl) rfl ?_
            refine k_end ?_
            refine wx_then ?_
            refine wc_ret ?_
            refine wx_block_ret ?_
            refine wx_then_ret ?_
            simp only [Option.some.injEq, Prod.mk.injEq] at h
            obtain ⟨rfl, rfl⟩ := h
            exact wx_spD tt_ok (.inl rfl) Try.results32 (Res.tmp rfl Res.nil) ⟨rfl, rfl⟩ (fun F => by simp) (pSub (pCons Sel.hc pNil))
          · replace h := cf hc h
            refine wc_seq ?_
            refine wc_region ?_
            refine wl_pure (v := .bool ((Int.tmod p1.Kind 7) == (5 : Int))) tt_ok rfl rfl ?_
            refine wl_pure tt_ok rfl rfl ?_
            refine wl_nil ?_
            refine wx_then ?_
            refine wc_cond rfl (fun hc => ?_) (fun hc => ?_)
            · replace h := ct hc h
              refine wc_seq ?_
              refine wc_k2 (Ls := (⟨b3, [.int .u8 p1.Kind, .int .u64 p1.N, .string ⟨p1.S.toArray⟩], 32, (0, 0)⟩ :: [])) [1] [] [0, 1, 0, 4, 15, 31] [0, 2, 3, 1, 4, 5] (by kernel_rfl) (by kernel_rfl) (by kernel_rfl) ?_
              refine k_val rfl rfl rfl (pSub (pCons Sel.hc pNil)) (stepV_ok tt_ok rfl) rfl ?_
              refine k_val (v := .pointer (some ⟨b3, 1, none⟩)) rfl rfl rfl (pSub (pCons Sel.hc pNil)) (stepV_ok tt_ok rfl) rfl ?_
              refine k_val (v := .int .u64 p1.N) rfl rfl rfl (pSub (pCons Sel.hc pNil)) (val_load tt_ok rfl (List.Mem.head _) rfl) rfl ?_
              replace h := bsome h; obtain ⟨⟨o50_0, v50⟩, x50, h⟩ := h; try dsimp only at h
              refine k_cs rfl rfl rfl Try.call20 rfl rfl rfl (s_sp (k_codec_Reader_Var x50) (pCons (Sel.sc Sel.hc) pNil) (fun _ _ => trivial)) rfl (.inr (by rintro _ _ ⟨_, ⟨rfl, rfl⟩, rfl⟩; exact ⟨_, (pCons (Sel.sc Sel.hc) pNil)⟩)) ?_
              rintro _ _ ⟨_, ⟨rfl, rfl⟩, rfl⟩
              refine k_val (v := .bool (v50 == p1.N)) rfl rfl rfl (pSub (pCons (Sel.sc Sel.hc) pNil)) (stepV_ok tt_ok rfl) rfl ?_
              refine k_val rfl rfl rfl (pSub (pCons (Sel.sc Sel.hc) pNil)) (stepV_ok tt_ok rfl) rfl ?_
              refine k_end ?_
              refine wx_then ?_
              refine wc_ret ?_
              refine wx_block_ret ?_
              refine wx_then_ret ?_
              simp only [Option.some.injEq, Prod.mk.injEq] at h
              obtain ⟨rfl, rfl⟩ := h
              exact wx_spD tt_ok (.inl rfl) Try.results32 (Res.tmp rfl Res.nil) ⟨rfl, rfl⟩ (fun F => by simp) (pSub (pCons Sel.hc pNil))
            · replace h := cf hc h
              refine wc_skip ?_
              refine wx_block ?_
              refine wx_then ?_
              refine wc_seq ?_
              refine wc_k2 (Ls := (⟨b3, [.int .u8 p1.Kind, .int .u64 p1.N, .string ⟨p1.S.toArray⟩], 32, (0, 0)⟩ :: [])) [1] [] [0, 1, 0, 4, 15, 31] [0, 2, 3, 1, 4, 5] (by kernel_rfl) (by kernel_rfl) (by kernel_rfl) ?_
              refine k_val rfl rfl rfl (pSub (pCons Sel.hc pNil)) (stepV_ok tt_ok rfl) rfl ?_
              refine k_val (v := .pointer (some ⟨b3, 2, none⟩)) rfl rfl rfl (pSub (pCons Sel.hc pNil)) (stepV_ok tt_ok rfl) rfl ?_
              refine k_val (v := .string ⟨p1.S.toArray⟩) rfl rfl rfl (pSub (pCons Sel.hc pNil)) (val_load tt_ok rfl (List.Mem.head _) rfl) rfl ?_
              replace h := bsome h; obtain ⟨⟨o55_0, v55⟩, x55, h⟩ := h; try dsimp only at h
              refine k_cs rfl rfl rfl Try.call22 rfl rfl rfl (s_sp (k_codec_Reader_Text x55) (pCons (Sel.sc Sel.hc) pNil) (fun _ _ => trivial)) rfl (.inr (by rintro _ _ ⟨_, ⟨rfl, rfl⟩, rfl⟩; exact ⟨_, (pCons (Sel.sc Sel.hc) pNil)⟩)) ?_
              rintro _ _ ⟨_, ⟨rfl, rfl⟩, rfl⟩
              refine k_val (v := .bool (v55 == p1.S)) rfl rfl rfl (pSub (pCons (Sel.sc Sel.hc) pNil)) (val_seq tt_ok rfl rfl) rfl ?_
              refine k_val rfl rfl rfl (pSub (pCons (Sel.sc Sel.hc) pNil)) (stepV_ok tt_ok rfl) rfl ?_
              refine k_end ?_
              refine wx_then ?_
              refine wc_ret ?_
              simp only [Option.some.injEq, Prod.mk.injEq] at h
              obtain ⟨rfl, rfl⟩ := h
              exact wx_spD tt_ok (.inl rfl) Try.results32 (Res.tmp rfl Res.nil) ⟨rfl, rfl⟩ (fun F => by simp) (pSub (pCons Sel.hc pNil))

theorem k_hindcastlaw02_CodecBack {F : Nat} {p0 : (List T_hindcastlaw02_Item)} {p0a0 : Option Addr} {p0c0 : Nat} {p1 : (List UInt8)} {p2 : Int} {r0 : Bool} (p0H0 : p0.length ≤ p0c0) (h : m_hindcastlaw02_CodecBack F p0 p1 p2 = some r0) :
    Pf Try.prog 6 [.slice p0a0 p0.length p0c0, .string ⟨p1.toArray⟩, .int .u16 p2] (fun w => Rds w [] [] p0a0 (flat c_T_hindcastlaw02_Item p0)) (.bool r0) := by
  unfold m_hindcastlaw02_CodecBack at h
  refine pf_of_wc Try.func6 rfl Try.ntmps6 rfl rfl (fun w0 hR => ?_)
  have p0S0 := hR
  refine wc_seq ?_
  refine wc_region ?_
  refine wl_pure tt_ok rfl rfl ?_
  refine wl_nil ?_
  refine wx_then ?_
  refine wc_seq ?_
  refine wc_seq ?_
  refine wc_region ?_
  refine wl_pure tt_ok rfl rfl ?_
  replace h := bsome h; obtain ⟨v15, x15, h⟩ := h
  refine wl_cq Try.call8 rfl rfl rfl (q_pf (k_hindcastlaw02_few p0H0 x15) (Rds.call p0S0 pNil rsub_nil)) rfl ?_
  refine wl_pure (v := .bool (!v15)) tt_ok rfl rfl ?_
  refine wl_pure tt_ok rfl rfl ?_
  replace h := bsome h; obtain ⟨v21, h, hg21⟩ := h
  refine wl_split (t := 17) rfl (fun hc => ?_) (fun hc => ?_)
  · replace h := ct hc h
    refine wl_skip rfl rfl ?_
    refine wl_skip rfl rfl ?_
    refine wl_skip rfl rfl ?_
    simp only [Option.some.injEq, Prod.mk.injEq] at h
    obtain rfl := h
    have h := hg21; clear hg21
    refine wl_pure (v := .bool true) tt_ok rfl rfl ?_
    refine wl_nil ?_
    refine wx_then ?_
    replace h := ct rfl h
    refine wc_cond_true rfl ?_
    refine wc_seq ?_
    refine wc_region ?_
    replace h := bsome h; obtain ⟨v22, x22, h⟩ := h
    refine wl_cq Try.call9 rfl rfl rfl (q_pf (k_hindcastlaw02_works x22) (fun _ _ => trivial)) rfl ?_
    refine wl_pure tt_ok rfl rfl ?_
    refine wl_nil ?_
    refine wx_then ?_
    refine wc_ret ?_
    refine wx_then_ret ?_
    simp only [Option.some.injEq] at h
    obtain rfl := h
    exact wx_pf tt_ok (.inl rfl) Try.results6 (Res.tmp rfl Res.nil) rfl
  · replace h := cf hc h
    refine wl_run rfl ?_
    refine wl_pure tt_ok rfl rfl ?_
    refine wl_run rfl ?_
    refine wl_pure (v := .int .i64 (p1.length : Int)) tt_ok rfl rfl ?_
    refine wl_run rfl ?_
    refine wl_pure (v := .bool (decide ((1000 : Int) < (p1.length : Int)))) tt_ok rfl rfl ?_
    simp only [Option.some.injEq, Prod.mk.injEq] at h
    obtain rfl := h
    have h := hg21; clear hg21
    refine wl_pure (v := .bool (decide ((1000 : Int) < (p1.length : Int)))) tt_ok rfl rfl ?_
    refine wl_nil ?_
    refine wx_then ?_
    refine wc_cond rfl (fun hc => ?_) (fun hc => ?_)
    · replace h := ct hc h
      refine wc_seq ?_
      refine wc_region ?_
      replace h := bsome h; obtain ⟨v22, x22, h⟩ := h
      refine wl_cq Try.call9 rfl rfl rfl (q_pf (k_hindcastlaw02_works x22) (fun _ _ => trivial)) rfl ?_
      refine wl_pure tt_ok rfl rfl ?_
      refine wl_nil ?_
      refine wx_then ?_
      refine wc_ret ?_
      refine wx_then_ret ?_
      simp only [Option.some.injEq] at h
      obtain rfl := h
      exact wx_pf tt_ok (.inl rfl) Try.results6 (Res.tmp rfl Res.nil) rfl
    · replace h := cf hc h
      refine wc_skip ?_
      refine wx_then ?_
      refine wc_seq ?_
      refine wc_region ?_
      refine wl_pure (v := .agg #[.slice none 0 0]) tt_ok rfl rfl ?_
      refine wl_box rfl rfl rfl (fun b24 => ?_)
      refine wl_pure tt_ok rfl rfl ?_
      refine wl_nil ?_
      refine wx_then ?_
      refine wc_seq ?_
      refine wc_seq ?_
      refine wc_region ?_
      refine wl_pure tt_ok rfl rfl ?_
      refine wl_nil ?_
      refine wx_then ?_
      refine wc_block ?_
      replace h := bsome h; obtain ⟨l17_n24, h, hl17⟩ := h
      refine wc_loop (fun m E L => ∃ (j17_8 : Int) (j17_n24 : T_codec_Writer) (j17_n24a0 : Option Addr) (j17_n24c0 : Nat) (j17_n24B0 : List Blk), m_hindcastlaw02_CodecBack_L16 F p0 m j17_8 j17_n24 = some l17_n24 ∧ Vec 5 1 (.slice j17_n24a0 j17_n24.b.length j17_n24c0) j17_n24.b.length (flat (e1 .u8) j17_n24.b) j17_n24B0 ∧ E = [(0, .slice p0a0 p0.length p0c0), (1, .string ⟨p1.toArray⟩), (2, .int .u16 p2), (6, .bool false), (7, .pointer (some ⟨b24, 0, none⟩)), (8, .int .i64 j17_8)] ∧ L = (⟨b24, [.slice j17_n24a0 j17_n24.b.length j17_n24c0], 28, (0, 0)⟩ :: (j17_n24B0 ++ []))) F ⟨(0 : Int), (T_codec_Writer.mk ([] : List Int)), none, 0, [], h, Vec.none, rfl, rfl⟩ (agree_cons rfl (agree_cons rfl (agree_cons rfl (agree_cons rfl (agree_cons rfl (agree_cons rfl agree_nil)))))) (pSub (pCons Sel.hc (pNo pNil))) ?_
      clear h
      rintro m _ _ ⟨j17_8, j17_n24, j17_n24a0, j17_n24c0, j17_n24B0, h, j17_n24V0, rfl, rfl⟩
      rcases m with _ | m
      · rw [m_hindcastlaw02_CodecBack_L16.eq_1] at h; cases h
      rw [m_hindcastlaw02_CodecBack_L16.eq_2] at h
      refine wc_seq ?_
      refine wc_seq ?_
      refine wc_region ?_
      refine wl_pure tt_ok rfl rfl ?_
      refine wl_pure tt_ok rfl rfl ?_
      refine wl_pure (v := .int .i64 (p0.length : Int)) tt_ok rfl rfl ?_
      refine wl_pure (v := .bool (decide (j17_8 < (p0.length : Int)))) tt_ok rfl rfl ?_
      refine wl_nil ?_
      refine wx_then ?_
      refine wc_cond rfl (fun hc => ?_) (fun hc => ?_)
      · replace h := ct hc h
        refine wc_skip ?_
        refine wx_then ?_
        refine wc_seq ?_
        refine wc_block ?_
        refine wc_region ?_
        refine wl_pure tt_ok rfl rfl ?_
        refine wl_pure tt_ok rfl rfl ?_
        refine wl_pure tt_ok rfl rfl ?_
        replace h := bsome h; obtain ⟨v34, x34, h⟩ := h
        refine wl_val (v := .pointer (some ((adOf p0a0).add (j17_8.toNat * 3 + 0)))) (val_ix (enc := c_T_hindcastlaw02_Item) tt_ok rfl rfl rfl rfl p0S0 c_T_hindcastlaw02_Item_len rfl x34) rfl ?_
        refine wl_val (v := .agg #[.int .u8 v34.Kind, .int .u64 v34.N, .string ⟨v34.S.toArray⟩]) (val_le tt_ok rfl p0S0 rsub_nil c_T_hindcastlaw02_Item_len x34 rfl) rfl ?_
        replace h := bsome h; obtain ⟨o36_0, x36, h⟩ := h
        refine wl_cs Try.call10 rfl rfl rfl (s_sp (k_hindcastlaw02_put j17_n24V0 x36) (pCons Sel.hc (pApp Sel.ha pNil)) (fun _ _ => trivial)) rfl ?_
        rintro _ _ ⟨_, ⟨o36_0a0, o36_0c0, o36_0B0, o36_0V0, rfl, rfl⟩, rfl⟩
        refine wl_nil ?_
        refine wx_block ?_
        refine wx_then ?_
        refine wc_region ?_
        refine wl_pure tt_ok rfl rfl ?_
        refine wl_pure (v := .int .i64 (IntKind.wrap .i64 (j17_8 + (1 : Int)))) tt_ok rfl rfl ?_
        refine wl_pure tt_ok rfl rfl ?_
        refine wl_nil ?_
        exact wx_round m (Nat.lt_succ_self m) ⟨(IntKind.wrap .i64 (j17_8 + (1 : Int))), o36_0, o36_0a0, o36_0c0, o36_0B0, h, o36_0V0, rfl, rfl⟩ (agree_cons rfl (agree_cons rfl (agree_cons rfl (agree_cons rfl (agree_cons rfl (agree_cons rfl agree_nil)))))) (pSub (pCons Sel.hc (pApp Sel.ha pNil)))
      · replace h := cf hc h
        refine wc_exit ?_
        refine wx_then_exit ?_
        simp only [Option.some.injEq] at h
        obtain rfl := h
        have h := hl17; clear hl17; try dsimp only [orE_l, orE_r] at h
        refine wx_then_exit ?_
        refine wx_block_exit ?_
        refine wx_then ?_
        refine wc_seq ?_
        refine wc_region ?_
        refine wl_pure tt_ok rfl rfl ?_
        replace h := bsome h; obtain ⟨v38, x38, h⟩ := h
        refine wl_cq Try.call12 rfl rfl rfl (q_rd (k_codec_Writer_Bytes j17_n24V0 x38) (pCons Sel.hc (pApp Sel.ha pNil)) (fun _ _ => trivial)) rfl ?_
        refine wl_pure tt_ok rfl rfl ?_
        refine wl_nil ?_
        refine wx_then ?_
        refine wc_seq ?_
        refine wc_region ?_
        refine wl_pure tt_ok rfl rfl ?_
        refine wl_pure tt_ok rfl rfl ?_
        replace h := bsome h; obtain ⟨v41, x41, h⟩ := h
        refine wl_val (v := .string ⟨v41.toArray⟩) (val_cat tt_ok rfl rfl x41) rfl ?_
        replace h := bsome h; obtain ⟨v42, x42, h⟩ := h
        refine wl_cs Try.call13 rfl rfl rfl (s_sp (k_codec_New x42) pNil (fun _ _ => trivial)) rfl ?_
        rintro _ _ ⟨_, ⟨b42_0, rfl, rfl⟩, rfl⟩
        refine wl_pure tt_ok rfl rfl ?_
        refine wl_nil ?_
        refine wx_then ?_
        refine wc_seq ?_
        refine wc_seq ?_
        refine wc_region ?_
        refine wl_pure tt_ok rfl rfl ?_
        refine wl_pure (v := .bool false) tt_ok rfl rfl ?_
        refine wl_nil ?_
        refine wx_then ?_
        refine wc_cond_false rfl ?_
        refine wc_skip ?_
        refine wx_then ?_
        refine wc_seq ?_
        refine wc_seq ?_
        refine wc_region ?_
        refine wl_pure tt_ok rfl rfl ?_
        refine wl_nil ?_
        refine wx_then ?_
        refine wc_block ?_
        replace h := bsome h; obtain ⟨o44, h, hl44⟩ := h
        refine wc_loop (fun m E L => ∃ (j44_11 : Int) (j44_n42_0 : T_codec_Reader), m_hindcastlaw02_CodecBack_L43 F p0 m j44_11 j44_n42_0 = some o44 ∧ E = [(0, .slice p0a0 p0.length p0c0), (1, .string ⟨p1.toArray⟩), (2, .int .u16 p2), (6, .bool false), (9, .string ⟨v38.toArray⟩), (10, .pointer (some ⟨b42_0, 0, none⟩)), (11, .int .i64 j44_11)] ∧ L = (⟨b42_0, [.string ⟨j44_n42_0.left.s.toArray⟩, .int .i64 j44_n42_0.left.e], 67, (0, 0)⟩ :: [])) F ⟨(0 : Int), v42, h, rfl, rfl⟩ (agree_cons rfl (agree_cons rfl (agree_cons rfl (agree_cons rfl (agree_cons rfl (agree_cons rfl (agree_cons rfl agree_nil))))))) (pSub (pCons Sel.hc pNil)) ?_
        clear h
        rintro m _ _ ⟨j44_11, j44_n42_0, h, rfl, rfl⟩
        rcases m with _ | m
        · rw [m_hindcastlaw02_CodecBack_L43.eq_1] at h; cases h
        rw [m_hindcastlaw02_CodecBack_L43.eq_2] at h
        refine wc_seq ?_
        refine wc_seq ?_
        refine wc_region ?_
        refine wl_pure tt_ok rfl rfl ?_
        refine wl_pure tt_ok rfl rfl ?_
        refine wl_pure (v := .int .i64 (p0.length : Int)) tt_ok rfl rfl ?_
        refine wl_pure (v := .bool (decide (j44_11 < (p0.length : Int)))) tt_ok rfl rfl ?_
        refine wl_nil ?_
        refine wx_then ?_
        refine wc_cond rfl (fun hc => ?_) (fun hc => ?_)
        · replace h := ct hc h
          refine wc_skip ?_
          refine wx_then ?_
          refine wc_seq ?_
          refine wc_block ?_
          refine wc_seq ?_
          refine wc_region ?_
          refine wl_pure tt_ok rfl rfl ?_
          refine wl_pure tt_ok rfl rfl ?_
          refine wl_pure tt_ok rfl rfl ?_
          replace h := bsome h; obtain ⟨v54, x54, h⟩ := h
          refine wl_val (v := .pointer (some ((adOf p0a0).add (j44_11.toNat * 3 + 0)))) (val_ix (enc := c_T_hindcastlaw02_Item) tt_ok rfl rfl rfl rfl p0S0 c_T_hindcastlaw02_Item_len rfl x54) rfl ?_
          refine wl_val (v := .agg #[.int .u8 v54.Kind, .int .u64 v54.N, .string ⟨v54.S.toArray⟩]) (val_le tt_ok rfl p0S0 rsub_nil c_T_hindcastlaw02_Item_len x54 rfl) rfl ?_
          replace h := bsome h; obtain ⟨⟨o56_0, v56⟩, x56, h⟩ := h; try dsimp only at h
          refine wl_cs Try.call32 rfl rfl rfl (s_sp (k_hindcastlaw02_get x56) (pCons Sel.hc pNil) (fun _ _ => trivial)) rfl ?_
          rintro _ _ ⟨_, ⟨rfl, rfl⟩, rfl⟩
          refine wl_pure (v := .bool (!v56)) tt_ok rfl rfl ?_
          refine wl_nil ?_
          refine wx_then ?_
          refine wc_cond rfl (fun hc => ?_) (fun hc => ?_)
          · replace h := ct hc h
            refine wc_seq ?_
            refine wc_region ?_
            refine wl_pure tt_ok rfl rfl ?_
            refine wl_nil ?_
            refine wx_then ?_
            refine wc_ret ?_
            refine wx_block_ret ?_
            refine wx_then_ret ?_
            obtain rfl := Option.some.inj h
            have h := hl44; clear hl44; try dsimp only [orE_l, orE_r] at h
            refine wx_then_ret ?_
            refine wx_block_ret ?_
            refine wx_then_ret ?_
            simp only [Option.some.injEq] at h
            obtain rfl := h
            exact wx_pf tt_ok (.inl rfl) Try.results6 (Res.tmp rfl Res.nil) rfl
          · replace h := cf hc h
            refine wc_skip ?_
            refine wx_block ?_
            refine wx_then ?_
            refine wc_region ?_
            refine wl_pure tt_ok rfl rfl ?_
            refine wl_pure (v := .int .i64 (IntKind.wrap .i64 (j44_11 + (1 : Int)))) tt_ok rfl rfl ?_
            refine wl_pure tt_ok rfl rfl ?_
            refine wl_nil ?_
            exact wx_round m (Nat.lt_succ_self m) ⟨(IntKind.wrap .i64 (j44_11 + (1 : Int))), o56_0, h, rfl, rfl⟩ (agree_cons rfl (agree_cons rfl (agree_cons rfl (agree_cons rfl (agree_cons rfl (agree_cons rfl (agree_cons rfl agree_nil))))))) (pSub (pCons Sel.hc pNil))
        · replace h := cf hc h
          refine wc_exit ?_
          refine wx_then_exit ?_
          obtain rfl := Option.some.inj h
          have h := hl44; clear hl44; try dsimp only [orE_l, orE_r] at h
          refine wx_then_exit ?_
          refine wx_block_exit ?_
          refine wx_then ?_
          refine wc_seq ?_
          refine wc_seq ?_
          refine wc_region ?_
          refine wl_pure tt_ok rfl rfl ?_
          replace h := bsome h; obtain ⟨v59, x59, h⟩ := h
          refine wl_cq Try.call24 rfl rfl rfl (q_rd (k_codec_Reader_Err x59) (pCons Sel.hc pNil) (fun _ _ => trivial)) rfl ?_
          refine wl_pure (v := .bool (v59 != (0 : Int))) tt_ok rfl rfl ?_
          refine wl_pure tt_ok rfl rfl ?_
          replace h := bsome h; obtain ⟨v66, h, hg66⟩ := h
          refine wl_split (t := 61) rfl (fun hc => ?_) (fun hc => ?_)
          · replace h := ct hc h
            refine wl_skip rfl rfl ?_
            refine wl_skip rfl rfl ?_
            refine wl_skip rfl rfl ?_
            refine wl_skip rfl rfl ?_
            simp only [Option.some.injEq, Prod.mk.injEq] at h
            obtain rfl := h
            have h := hg66; clear hg66
            refine wl_pure (v := .bool true) tt_ok rfl rfl ?_
            refine wl_nil ?_
            refine wx_then ?_
            replace h := ct rfl h
            refine wc_cond_true rfl ?_
            refine wc_seq ?_
            refine wc_region ?_
            refine wl_pure tt_ok rfl rfl ?_
            refine wl_nil ?_
            refine wx_then ?_
            refine wc_ret ?_
            refine wx_then_ret ?_
            simp only [Option.some.injEq] at h
            obtain rfl := h
            exact wx_pf tt_ok (.inl rfl) Try.results6 (Res.tmp rfl Res.nil) rfl
          · replace h := cf hc h
            refine wl_run rfl ?_
            refine wl_pure tt_ok rfl rfl ?_
            replace h := bsome h; obtain ⟨v63, x63, h⟩ := h
            refine wl_run rfl ?_
            refine wl_cq Try.call25 rfl rfl rfl (q_rd (k_codec_Reader_Rest x63) (pCons Sel.hc pNil) (fun _ _ => trivial)) rfl ?_
            refine wl_run rfl ?_
            refine wl_pure tt_ok rfl rfl ?_
            refine wl_run rfl ?_
            refine wl_val (v := .bool (!(v63 == p1))) (val_sne tt_ok rfl rfl) rfl ?_
            simp only [Option.some.injEq, Prod.mk.injEq] at h
            obtain rfl := h
            have h := hg66; clear hg66
            refine wl_pure (v := .bool (!(v63 == p1))) tt_ok rfl rfl ?_
            refine wl_nil ?_
            refine wx_then ?_
            refine wc_cond rfl (fun hc => ?_) (fun hc => ?_)
            · replace h := ct hc h
              refine wc_seq ?_
              refine wc_region ?_
              refine wl_pure tt_ok rfl rfl ?_
              refine wl_nil ?_
              refine wx_then ?_
              refine wc_ret ?_
              refine wx_then_ret ?_
              simp only [Option.some.injEq] at h
              obtain rfl := h
              exact wx_pf tt_ok (.inl rfl) Try.results6 (Res.tmp rfl Res.nil) rfl
            · replace h := cf hc h
              refine wc_skip ?_
              refine wx_then ?_
              refine wc_seq ?_
              refine wc_seq ?_
              refine wc_region ?_
              refine wl_pure tt_ok rfl rfl ?_
              refine wl_pure (v := .int .i64 (v38.length : Int)) tt_ok rfl rfl ?_
              refine wl_pure (v := .bool ((v38.length : Int) == (0 : Int))) tt_ok rfl rfl ?_
              refine wl_nil ?_
              refine wx_then ?_
              refine wc_cond rfl (fun hc => ?_) (fun hc => ?_)
              · replace h := ct hc h
                refine wc_seq ?_
                refine wc_region ?_
                refine wl_pure tt_ok rfl rfl ?_
                refine wl_pure (v := .int .i64 (p0.length : Int)) tt_ok rfl rfl ?_
                refine wl_pure (v := .bool ((p0.length : Int) == (0 : Int))) tt_ok rfl rfl ?_
                refine wl_pure tt_ok rfl rfl ?_
                replace h := bsome h; obtain ⟨v75, h, hg75⟩ := h
                refine wl_split (t := 73) rfl (fun hc => ?_) (fun hc => ?_)
                · replace h := ct hc h
                  replace h := bsome h; obtain ⟨v74, x74, h⟩ := h
                  refine wl_run rfl ?_
                  refine wl_cq Try.call9 rfl rfl rfl (q_pf (k_hindcastlaw02_works x74) (fun _ _ => trivial)) rfl ?_
                  simp only [Option.some.injEq, Prod.mk.injEq] at h
                  obtain rfl := h
                  have h := hg75; clear hg75
                  refine wl_pure (v := .bool v74) tt_ok rfl rfl ?_
                  refine wl_pure tt_ok rfl rfl ?_
                  refine wl_nil ?_
                  refine wx_then ?_
                  refine wc_ret ?_
                  refine wx_then_ret ?_
                  simp only [Option.some.injEq] at h
                  obtain rfl := h
                  exact wx_pf tt_ok (.inl rfl) Try.results6 (Res.tmp rfl Res.nil) rfl
                · replace h := cf hc h
                  refine wl_skip rfl rfl ?_
                  simp only [Option.some.injEq, Prod.mk.injEq] at h
                  obtain rfl := h
                  have h := hg75; clear hg75
                  refine wl_pure (v := .bool false) tt_ok rfl rfl ?_
                  refine wl_pure tt_ok rfl rfl ?_
                  refine wl_nil ?_
                  refine wx_then ?_
                  refine wc_ret ?_
                  refine wx_then_ret ?_
                  simp only [Option.some.injEq] at h
                  obtain rfl := h
                  exact wx_pf tt_ok (.inl rfl) Try.results6 (Res.tmp rfl Res.nil) rfl
              · replace h := cf hc h
                refine wc_skip ?_
                refine wx_then ?_
                refine wc_seq ?_
                refine wc_region ?_
                refine wl_pure tt_ok rfl rfl ?_
                refine wl_pure tt_ok rfl rfl ?_
                refine wl_pure (v := .int .i64 (IntKind.wrap .i64 p2)) tt_ok rfl rfl ?_
                refine wl_pure tt_ok rfl rfl ?_
                refine wl_pure (v := .int .i64 (v38.length : Int)) tt_ok rfl rfl ?_
                replace h := bsome h; obtain ⟨v81, x81, h⟩ := h
                refine wl_val (v := .int .i64 v81) (val_rem rfl rfl x81) rfl ?_
                replace h := bsome h; obtain ⟨v82, x82, h⟩ := h
                refine wl_val (v := .string ⟨v82.toArray⟩) (val_ss tt_ok rfl rfl (.inl ⟨rfl, rfl⟩) (.inr ⟨_, _, rfl, rfl⟩) x82) rfl ?_
                replace h := bsome h; obtain ⟨v83, x83, h⟩ := h
                refine wl_cs Try.call13 rfl rfl rfl (s_sp (k_codec_New x83) pNil (fun _ _ => trivial)) rfl ?_
                rintro _ _ ⟨_, ⟨b83_0, rfl, rfl⟩, rfl⟩
                refine wl_pure tt_ok rfl rfl ?_
                refine wl_nil ?_
                refine wx_then ?_
                refine wc_seq ?_
                refine wc_seq ?_
                refine wc_region ?_
                refine wl_pure tt_ok rfl rfl ?_
                refine wl_pure (v := .bool false) tt_ok rfl rfl ?_
                refine wl_nil ?_
                refine wx_then ?_
                refine wc_cond_false rfl ?_
                refine wc_skip ?_
                refine wx_then ?_
                refine wc_seq ?_
                refine wc_seq ?_
                refine wc_region ?_
                refine wl_pure tt_ok rfl rfl ?_
                refine wl_nil ?_
                refine wx_then ?_
                refine wc_block ?_
                replace h := bsome h; obtain ⟨l91_n83_0, h, hl91⟩ := h
                refine wc_loop (fun m E L => ∃ (j91_13 : Int) (j91_n83_0 : T_codec_Reader), m_hindcastlaw02_CodecBack_L90 F p0 m j91_13 j91_n83_0 = some l91_n83_0 ∧ E = [(0, .slice p0a0 p0.length p0c0), (6, .bool false), (12, .pointer (some ⟨b83_0, 0, none⟩)), (13, .int .i64 j91_13)] ∧ L = (⟨b83_0, [.string ⟨j91_n83_0.left.s.toArray⟩, .int .i64 j91_n83_0.left.e], 67, (0, 0)⟩ :: [])) F ⟨(0 : Int), v83, h, rfl, rfl⟩ (agree_cons rfl (agree_cons rfl (agree_cons rfl (agree_cons rfl agree_nil)))) (pSub (pCons Sel.hc pNil)) ?_
                clear h
                rintro m _ _ ⟨j91_13, j91_n83_0, h, rfl, rfl⟩
                rcases m with _ | m
                · rw [m_hindcastlaw02_CodecBack_L90.eq_1] at h; cases h
                rw [m_hindcastlaw02_CodecBack_L90.eq_2] at h
                refine wc_seq ?_
                refine wc_seq ?_
                refine wc_region ?_
                refine wl_pure tt_ok rfl rfl ?_
                refine wl_pure tt_ok rfl rfl ?_
                refine wl_pure (v := .int .i64 (p0.length : Int)) tt_ok rfl rfl ?_
                refine wl_pure (v := .bool (decide (j91_13 < (p0.length : Int)))) tt_ok rfl rfl ?_
                refine wl_nil ?_
                refine wx_then ?_
                refine wc_cond rfl (fun hc => ?_) (fun hc => ?_)
                · replace h := ct hc h
                  refine wc_skip ?_
                  refine wx_then ?_
                  refine wc_seq ?_
                  refine wc_block ?_
                  refine wc_region ?_
                  refine wl_pure tt_ok rfl rfl ?_
                  refine wl_pure tt_ok rfl rfl ?_
                  refine wl_pure tt_ok rfl rfl ?_
                  replace h := bsome h; obtain ⟨v95, x95, h⟩ := h
                  refine wl_val (v := .pointer (some ((adOf p0a0).add (j91_13.toNat * 3 + 0)))) (val_ix (enc := c_T_hindcastlaw02_Item) tt_ok rfl rfl rfl rfl p0S0 c_T_hindcastlaw02_Item_len rfl x95) rfl ?_
                  refine wl_val (v := .agg #[.int .u8 v95.Kind, .int .u64 v95.N, .string ⟨v95.S.toArray⟩]) (val_le tt_ok rfl p0S0 rsub_nil c_T_hindcastlaw02_Item_len x95 rfl) rfl ?_
                  replace h := bsome h; obtain ⟨⟨o97_0, v97⟩, x97, h⟩ := h; try dsimp only at h
                  refine wl_cs Try.call32 rfl rfl rfl (s_sp (k_hindcastlaw02_get x97) (pCons Sel.hc pNil) (fun _ _ => trivial)) rfl ?_
                  rintro _ _ ⟨_, ⟨rfl, rfl⟩, rfl⟩
                  refine wl_nil ?_
                  refine wx_block ?_
                  refine wx_then ?_
                  refine wc_region ?_
                  refine wl_pure tt_ok rfl rfl ?_
                  refine wl_pure (v := .int .i64 (IntKind.wrap .i64 (j91_13 + (1 : Int)))) tt_ok rfl rfl ?_
                  refine wl_pure tt_ok rfl rfl ?_
                  refine wl_nil ?_
                  exact wx_round m (Nat.lt_succ_self m) ⟨(IntKind.wrap .i64 (j91_13 + (1 : Int))), o97_0, h, rfl, rfl⟩ (agree_cons rfl (agree_cons rfl (agree_cons rfl (agree_cons rfl agree_nil)))) (pSub (pCons Sel.hc pNil))
                · replace h := cf hc h
                  refine wc_exit ?_
                  refine wx_then_exit ?_
                  simp only [Option.some.injEq] at h
                  obtain rfl := h
                  have h := hl91; clear hl91; try dsimp only [orE_l, orE_r] at h
                  refine wx_then_exit ?_
                  refine wx_block_exit ?_
                  refine wx_then ?_
                  refine wc_seq ?_
                  refine wc_region ?_
                  refine wl_pure tt_ok rfl rfl ?_
                  replace h := bsome h; obtain ⟨v99, x99, h⟩ := h
                  refine wl_cq Try.call24 rfl rfl rfl (q_rd (k_codec_Reader_Err x99) (pCons Sel.hc pNil) (fun _ _ => trivial)) rfl ?_
                  refine wl_pure (v := .bool (v99 == (10 : Int))) tt_ok rfl rfl ?_
                  refine wl_pure tt_ok rfl rfl ?_
                  replace h := bsome h; obtain ⟨v105, h, hg105⟩ := h
                  refine wl_split (t := 101) rfl (fun hc => ?_) (fun hc => ?_)
                  · replace h := ct hc h
                    refine wl_run rfl ?_
                    refine wl_pure tt_ok rfl rfl ?_
                    replace h := bsome h; obtain ⟨v103, x103, h⟩ := h
                    refine wl_run rfl ?_
                    refine wl_cq Try.call25 rfl rfl rfl (q_rd (k_codec_Reader_Rest x103) (pCons Sel.hc pNil) (fun _ _ => trivial)) rfl ?_
                    refine wl_run rfl ?_
                    refine wl_val (v := .bool (v103 == ([] : List UInt8))) (val_seq tt_ok rfl rfl) rfl ?_
                    simp only [Option.some.injEq, Prod.mk.injEq] at h
                    obtain rfl := h
                    have h := hg105; clear hg105
                    refine wl_pure (v := .bool (v103 == ([] : List UInt8))) tt_ok rfl rfl ?_
                    refine wl_pure tt_ok rfl rfl ?_
                    replace h := bsome h; obtain ⟨v108, h, hg108⟩ := h
                    refine wl_split (t := 106) rfl (fun hc => ?_) (fun hc => ?_)
                    · replace h := ct hc h
                      replace h := bsome h; obtain ⟨v107, x107, h⟩ := h
                      refine wl_run rfl ?_
                      refine wl_cq Try.call9 rfl rfl rfl (q_pf (k_hindcastlaw02_works x107) (fun _ _ => trivial)) rfl ?_
                      simp only [Option.some.injEq, Prod.mk.injEq] at h
                      obtain rfl := h
                      have h := hg108; clear hg108
                      refine wl_pure (v := .bool v107) tt_ok rfl rfl ?_
                      refine wl_pure tt_ok rfl rfl ?_
                      refine wl_nil ?_
                      refine wx_then ?_
                      refine wc_ret ?_
                      simp only [Option.some.injEq] at h
                      obtain rfl := h
                      exact wx_pf tt_ok (.inl rfl) Try.results6 (Res.tmp rfl Res.nil) rfl
                    · replace h := cf hc h
                      refine wl_skip rfl rfl ?_
                      simp only [Option.some.injEq, Prod.mk.injEq] at h
                      obtain rfl := h
                      have h := hg108; clear hg108
                      refine wl_pure (v := .bool false) tt_ok rfl rfl ?_
                      refine wl_pure tt_ok rfl rfl ?_
                      refine wl_nil ?_
                      refine wx_then ?_
                      refine wc_ret ?_
                      simp only [Option.some.injEq] at h
                      obtain rfl := h
                      exact wx_pf tt_ok (.inl rfl) Try.results6 (Res.tmp rfl Res.nil) rfl
                  · replace h := cf hc h
                    refine wl_skip rfl rfl ?_
                    refine wl_skip rfl rfl ?_
                    refine wl_skip rfl rfl ?_
                    simp only [Option.some.injEq, Prod.mk.injEq] at h
                    obtain rfl := h
                    have h := hg105; clear hg105
                    refine wl_pure (v := .bool false) tt_ok rfl rfl ?_
                    refine wl_pure tt_ok rfl rfl ?_
                    replace h := bsome h; obtain ⟨v108, h, hg108⟩ := h
                    replace h := cf rfl h
                    refine wl_skip rfl rfl ?_
                    simp only [Option.some.injEq, Prod.mk.injEq] at h
                    obtain rfl := h
                    have h := hg108; clear hg108
                    refine wl_pure (v := .bool false) tt_ok rfl rfl ?_
                    refine wl_pure tt_ok rfl rfl ?_
                    refine wl_nil ?_
                    refine wx_then ?_
                    refine wc_ret ?_
                    simp only [Option.some.injEq] at h
                    obtain rfl := h
                    exact wx_pf tt_ok (.inl rfl) Try.results6 (Res.tmp rfl Res.nil) rfl

end Go.Proofs.Ytpcaiefefanpoaa
