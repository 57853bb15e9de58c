/-
  Law of chapter 7 (geom): GeomKnown (the chapter's examples; no input): it returns true. No condition.
-/
import Derived.Test.YtfmicjjbbeffjaaGeoRows
namespace Go.Proofs.Ytfmicjjbbeffjaa
open Go.Proofs.Ytfmicjjbbeffjaa.Eng Go.RowKit Go.ChangeShapes Go.WideShapes Go.ChangeAt
set_option linter.unusedSimpArgs false
set_option linter.unusedVariables false
set_option maxHeartbeats 4000000

theorem geomKnown_any : Pf Try.prog 8 [] (fun _ => True) (.bool true) := by
  refine pf_of_wc Try.func8 rfl Try.ntmps8 rfl rfl (fun w0 hR => ?_)
  repeat' (first
    | ((with_reducible (apply wl_id)); first
      | (apply wl_arith tt_ok; rfl; rfl; (first | ((with_reducible refine fit_div_i64 ?_ ?_) <;> omega) | ((with_reducible refine fit_div_i32 ?_ ?_) <;> omega) | ((with_reducible refine fit_div_u64 ?_ ?_) <;> omega) | ((with_reducible refine fit_i64 ?_); omega) | ((with_reducible refine fit_i32 ?_); omega) | ((with_reducible refine fit_u64 ?_); omega) | ((with_reducible refine fit_u8 ?_); omega) | ((with_reducible refine fit_u32 ?_); omega) | ((with_reducible refine fit_u16 ?_); omega) | rfl); rfl)
      | (apply wl_boolish tt_ok; rfl; rfl; (first | (with_reducible first | exact bb_not_t | exact bb_not_f | exact bb_eq_t _ | exact bb_eq_f _ | exact bb_t_eq _ | exact bb_f_eq _ | exact bb_ne_t _ | exact bb_ne_f _ | exact bb_t_ne _ | exact bb_f_ne _ | exact bb_same _ | exact bb_nsame _ | exact bi_same _ | exact bi_nsame _) | rfl); rfl)
      | (refine wl_pure tt_ok rfl rfl ?_)
      | (apply wl_load tt_ok; rfl; (repeat (first | exact List.Mem.head _ | apply List.Mem.tail)); rfl; rfl)
      | (refine wl_pf Try.call21 rfl rfl rfl (box_any _ _ _ _) (fun _ _ => trivial) rfl ?_)
      | (refine wl_pf Try.call9 rfl rfl rfl (Over_any _ _ _ _ _ _ _ _ (by omega) (by omega) (by omega) (by omega) (by omega) (by omega) (by omega) (by omega)) (fun _ _ => trivial) rfl ?_)
      | (refine wl_pf Try.call11 rfl rfl rfl (Inside_any _ _ _ _ _ _ _ _ (by omega) (by omega) (by omega) (by omega) (by omega) (by omega) (by omega) (by omega)) (fun _ _ => trivial) rfl ?_)
      | (refine wl_pf Try.call17 rfl rfl rfl (Near_any _ _ _ _ _ _ _ _ (by omega) (by omega) (by omega) (by omega) (by omega) (by omega) (by omega) (by omega)) (fun _ _ => trivial) rfl ?_)
      | (refine wl_pf Try.call22 rfl rfl rfl (moves_any _ _ _ _ _ _ (by omega) (by omega) (by omega) (by omega)) (fun _ _ => trivial) rfl ?_)
      | (refine wl_pf Try.call23 rfl rfl rfl (centre_any _ _ _ _ _ _ (by omega) (by omega) (by omega) (by omega)) (fun _ _ => trivial) rfl ?_)
      | (refine wl_pf Try.call13 rfl rfl rfl (awake_any) (fun _ _ => trivial) rfl ?_)
      | (apply wl_store tt_ok; rfl; (repeat (first | exact Upd.here | apply Upd.there)); rfl; rfl; rfl; rfl; rfl; rfl)
      | (refine wl_box rfl rfl rfl (fun _ => ?_))
      | (refine wl_alloc tt_ok rfl rfl (fun _ => ?_))
      | (apply wl_yes; rfl; rfl; (with_reducible rfl))
      | (apply wl_no_t; rfl; rfl; (with_reducible rfl); rfl)
      | (apply wl_no_f; rfl; rfl; (with_reducible rfl); rfl)
      | (refine wl_guard rfl rfl (fun hc => ?_) (fun hc => ?_) <;> (first | (exfalso; contradiction) | ((try simp only [decide_eq_true_eq, decide_eq_false_iff_not, beq_iff_eq, bne_iff_ne, beq_eq_false_iff_ne, bne_eq_false_iff_eq, ne_eq, Decidable.not_not, Bool.not_eq_true', Bool.not_eq_false', Int.not_lt, Int.not_le] at hc); first | (exfalso; omega) | (exfalso; revert hc; decide) | skip)))
      | (with_reducible refine wl_nil ?_))
    | ((with_reducible (apply wc_id)); first
      | (with_reducible refine wc_seq ?_)
      | (with_reducible refine wc_region ?_)
      | (with_reducible refine wc_ret ?_)
      | (refine wc_cond rfl (fun hc => ?_) (fun hc => ?_) <;> (first | (exfalso; contradiction) | ((try simp only [decide_eq_true_eq, decide_eq_false_iff_not, beq_iff_eq, bne_iff_ne, beq_eq_false_iff_ne, bne_eq_false_iff_eq, ne_eq, Decidable.not_not, Bool.not_eq_true', Bool.not_eq_false', Int.not_lt, Int.not_le] at hc); first | (exfalso; omega) | (exfalso; revert hc; decide) | skip)))
      | (with_reducible refine wc_block ?_)
      | (with_reducible refine wc_skip ?_)
      | (with_reducible refine wc_exit ?_)
      | (with_reducible refine wc_quiet (by kernel_rfl) (by kernel_rfl) ?_))
    | ((with_reducible (apply wx_id)); first
      | (with_reducible refine wx_then ?_)
      | (with_reducible refine wx_block ?_)
      | (with_reducible refine wx_block_exit ?_)
      | (with_reducible refine wx_block_other (by rfl) ?_)
      | (with_reducible refine wx_block_ret ?_)
      | (with_reducible refine wx_then_exit ?_)
      | (with_reducible refine wx_then_ret ?_)
      | ((with_reducible (apply wx_pf tt_ok)); (first | exact .inl rfl | exact .inr rfl); (first | exact Try.results8 | rfl); (repeat (first | exact Res.nil | (apply Res.tmp; rfl) | (apply Res.cell; rfl; (repeat (first | exact List.Mem.head _ | apply List.Mem.tail)); rfl)))))
    | ((with_reducible (apply wq_id)); first
      | (apply wq_arith tt_ok; rfl; rfl; (first | ((with_reducible refine fit_div_i64 ?_ ?_) <;> omega) | ((with_reducible refine fit_div_i32 ?_ ?_) <;> omega) | ((with_reducible refine fit_div_u64 ?_ ?_) <;> omega) | ((with_reducible refine fit_i64 ?_); omega) | ((with_reducible refine fit_i32 ?_); omega) | ((with_reducible refine fit_u64 ?_); omega) | ((with_reducible refine fit_u8 ?_); omega) | ((with_reducible refine fit_u32 ?_); omega) | ((with_reducible refine fit_u16 ?_); omega) | rfl); rfl)
      | (apply wq_boolish tt_ok; rfl; rfl; (first | (with_reducible first | exact bb_not_t | exact bb_not_f | exact bb_eq_t _ | exact bb_eq_f _ | exact bb_t_eq _ | exact bb_f_eq _ | exact bb_ne_t _ | exact bb_ne_f _ | exact bb_t_ne _ | exact bb_f_ne _ | exact bb_same _ | exact bb_nsame _ | exact bi_same _ | exact bi_nsame _) | rfl); rfl)
      | (refine wq_pure tt_ok rfl rfl ?_)
      | (apply wq_load tt_ok; rfl; (repeat (first | exact List.Mem.head _ | apply List.Mem.tail)); rfl; rfl)
      | (refine wq_pf Try.call21 rfl rfl rfl (box_any _ _ _ _) (fun _ _ => trivial) rfl ?_)
      | (refine wq_pf Try.call9 rfl rfl rfl (Over_any _ _ _ _ _ _ _ _ (by omega) (by omega) (by omega) (by omega) (by omega) (by omega) (by omega) (by omega)) (fun _ _ => trivial) rfl ?_)
      | (refine wq_pf Try.call11 rfl rfl rfl (Inside_any _ _ _ _ _ _ _ _ (by omega) (by omega) (by omega) (by omega) (by omega) (by omega) (by omega) (by omega)) (fun _ _ => trivial) rfl ?_)
      | (refine wq_pf Try.call17 rfl rfl rfl (Near_any _ _ _ _ _ _ _ _ (by omega) (by omega) (by omega) (by omega) (by omega) (by omega) (by omega) (by omega)) (fun _ _ => trivial) rfl ?_)
      | (refine wq_pf Try.call22 rfl rfl rfl (moves_any _ _ _ _ _ _ (by omega) (by omega) (by omega) (by omega)) (fun _ _ => trivial) rfl ?_)
      | (refine wq_pf Try.call23 rfl rfl rfl (centre_any _ _ _ _ _ _ (by omega) (by omega) (by omega) (by omega)) (fun _ _ => trivial) rfl ?_)
      | (refine wq_pf Try.call13 rfl rfl rfl (awake_any) (fun _ _ => trivial) rfl ?_)
      | (apply wq_yes; rfl; rfl; (with_reducible rfl))
      | (apply wq_no_t; rfl; rfl; (with_reducible rfl); rfl)
      | (apply wq_no_f; rfl; rfl; (with_reducible rfl); rfl)
      | (refine wq_guard rfl rfl (fun hc => ?_) (fun hc => ?_) <;> (first | (exfalso; contradiction) | ((try simp only [decide_eq_true_eq, decide_eq_false_iff_not, beq_iff_eq, bne_iff_ne, beq_eq_false_iff_ne, bne_eq_false_iff_eq, ne_eq, Decidable.not_not, Bool.not_eq_true', Bool.not_eq_false', Int.not_lt, Int.not_le] at hc); first | (exfalso; omega) | (exfalso; revert hc; decide) | skip)))
      | (with_reducible refine wq_nil ?_)))
  all_goals first | rfl | (exfalso; revert hc; decide) | (exfalso; simp at hc)

theorem geomKnown_walk (W : World) :
    Calls Try.prog 8 #[] W fun e w' => e = .returned (.bool true) ∧ Inv W [] w' [] :=
  geomKnown_any.run W trivial

set_option maxRecDepth 100000 in
theorem geomKnown_lifted (os : Os) (started : os.Started) (H : Type) (enc : TypeId × Value → H) :
    ReturnsInHanded {} Try.checked os 8 .any (Rows.geomKnownSpec.pre6 enc Try.prog Try.f8 Rows.geomKnownRow.domain false) (Rows.geomKnownSpec.post enc Try.prog Try.f8 false true false false) := by
  refine returnsInHanded_of_change_sized (C := Try.checked) (by kernel_rfl) started (by kernel_rfl) Try.func8
    (ChangeSpec.witness6 (enc := enc) (C := Try.checked) false ⟨#[], #[], []⟩ 8 (by kernel_rfl) (by kernel_rfl) (by kernel_rfl) (by kernel_rfl)) ?_
  intro W base args ds gs before hval0 hW hcnd hsz0 _
  have hval : ∀ (j : Nat) t v, Try.f8.params[j]? = some t → args[j]? = some v → Value.okWide Try.prog W .any base t v := hval0
  have hW' := hW
  obtain ⟨p, q, hA0, hV, rfl, hfz, hnd⟩ := hW
  have hA : DataW.TrodAll enc Try.prog W 0 (fun _ => true) true Try.f8.params.toList args.toList ds p := hA0
  obtain ⟨rfl, rfl⟩ := trodVars_none hV
  have hsz : ∀ x ∈ DataW.weightsEach Try.prog Try.f8.params.toList ds, x ≤ maxB := by
    have h1 : (DataW.weightsEach Try.prog (Try.f8.params.toList ++ []) (ds ++ [])).all (· ≤ reachBytes) = true := hsz0
    simp only [List.append_nil] at h1
    intro x hx; have h2 := List.all_eq_true.1 h1 x hx; simp only [decide_eq_true_eq] at h2; exact h2
  rw [Try.params8] at hA hval hsz
  have hR := rdw_all tt_ok ctt_ok (closed_of tt_closed) (fun _ => rfl) 8 hA hsz
  have hback := fun (W2 : World) (hb : Below W.heap.size W W2) => trodAll_below (by kernel_rfl : laidOutB Try.prog = true) hb (by kernel_rfl) hA
  obtain ⟨rfl, rfl, rfl⟩ := trodAll_none hA
  clear hval hval0 hsz hsz0 hR hA0
  refine (geomKnown_walk W  ).mono fun e W2 ⟨he, hI⟩ => ?_
  subst he
  exact ⟨_, rfl, _, _, _, [], _, [], hW', trodAll_mk1 (shut_bool Try.underlying4 _), hback _ (below_of_inv hI), rfl, (below_of_inv hI).frame _, fun h => by cases h⟩

theorem geomKnown_holds : Rows.GeomKnownSaid :=
  OpenClaim.holds_of_wide 8 Try.f8 rfl rfl rfl rfl rfl rfl rfl ⟨rfl, rfl, rfl, rfl, rfl⟩ rfl rfl rfl rfl rfl (by kernel_rfl) Try.func8 (by kernel_rfl)
    (of_decide_eq_true (by kernel_rfl)) (by unfold Func.isWrapper; first | (rw [if_pos (by decide +kernel)]; kernel_rfl) | (rw [if_neg (by decide +kernel)]; exact ⟨rfl, rfl⟩))
    (fun os started H enc _ => geomKnown_lifted os started H enc)

end Go.Proofs.Ytfmicjjbbeffjaa
