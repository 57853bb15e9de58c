/-
  Law of chapter 7 (geom): GeomStays (any two boxes, any place, speed and walls):
  it returns true, whatever the input, and the arguments read behind the call as they read before. No condition.
-/
import Derived.Test.YtfmicjjbbeffjaaGeoRows
namespace Go.Proofs.Ytfmicjjbbeffjaa
open Go.Proofs.Ytfmicjjbbeffjaa.Eng Go.RowKit Go.ChangeShapes Go.WideShapes Go.ChangeAt
set_option linter.unusedSimpArgs false
set_option linter.unusedVariables false
set_option maxHeartbeats 4000000

theorem geomStays_core (x y w h x' y' w' h' m0 m1 m2 m3 : Int) (h1 : I32 x) (h2 : I32 y) (h3 : I32 w) (h4 : I32 h) (h5 : I32 x') (h6 : I32 y') (h7 : I32 w') (h8 : I32 h')
    (k0 : I32 m0) (k1 : I32 m1) (k2 : I32 m2) (k3 : I32 m3) (near to sp on z : Int) (o : Bool) (hn : 0 ≤ near) (hon : o = true → near = 0)
    (hlo : min m2 m3 ≤ to) (hhi : to ≤ max m2 m3) (hto : I32 to) (hsp : I32 sp)
    (hin : (min m2 m3 ≤ m0 + m1 ∧ m0 + m1 ≤ max m2 m3 ∧ to = m0 + m1 ∧ sp = m1) ∨ (¬ (min m2 m3 ≤ m0 + m1 ∧ m0 + m1 ≤ max m2 m3) ∧ to ≠ m0 + m1 ∧ sp = 0))
    (hz1 : m1 < 0 ∨ to ≤ on) (hz2 : 0 < m1 ∨ on ≤ to)
    (Ho : Pf Try.prog 9 [boxV x y w h, boxV x' y' w' h'] (fun _ => True) (.bool o))
    (Hn : Pf Try.prog 17 [boxV x y w h, boxV x' y' w' h'] (fun _ => True) (.int .i32 near)) (Hn' : Pf Try.prog 17 [boxV x' y' w' h', boxV x y w h] (fun _ => True) (.int .i32 near))
    (Hm : Pf Try.prog 14 [.int .i32 m0, .int .i32 m1, .int .i32 (min m2 m3), .int .i32 (max m2 m3)] (fun _ => True) (.tuple #[.int .i32 to, .int .i32 sp]))
    (Hm' : Pf Try.prog 14 [.int .i32 to, .int .i32 sp, .int .i32 (min m2 m3), .int .i32 (max m2 m3)] (fun _ => True) (.tuple #[.int .i32 on, .int .i32 z])) :
    Pf Try.prog 6 [boxV x y w h, boxV x' y' w' h', .agg #[.int .i32 m0, .int .i32 m1, .int .i32 m2, .int .i32 m3]] (fun _ => True) (.bool true) := by
  have ho : o = false ∨ (o = true ∧ near = 0) := by cases o <;> simp_all
  clear hon
  rcases ho with rfl | ⟨rfl, rfl⟩ <;> rcases hin with ⟨a1, a2, a3, a4⟩ | ⟨a1, a3, a4⟩
  all_goals (subst a4)
  all_goals (try subst a3)
  all_goals
    (skip
     refine pf_of_wc Try.func6 rfl Try.ntmps6 rfl rfl (fun w0 hR => ?_)
     repeat' (first
    | ((with_reducible (apply wl_id)); first
      | (apply wl_arith tt_ok; rfl; rfl; (first | ((with_reducible refine fit_div_i64 ?_ ?_) <;> omega) | ((with_reducible refine fit_div_i32 ?_ ?_) <;> omega) | ((with_reducible refine fit_div_u64 ?_ ?_) <;> omega) | ((with_reducible refine fit_i64 ?_); omega) | ((with_reducible refine fit_i32 ?_); omega) | ((with_reducible refine fit_u64 ?_); omega) | ((with_reducible refine fit_u8 ?_); omega) | ((with_reducible refine fit_u32 ?_); omega) | ((with_reducible refine fit_u16 ?_); omega) | rfl); rfl)
      | (apply wl_boolish tt_ok; rfl; rfl; (first | (with_reducible first | exact bb_not_t | exact bb_not_f | exact bb_eq_t _ | exact bb_eq_f _ | exact bb_t_eq _ | exact bb_f_eq _ | exact bb_ne_t _ | exact bb_ne_f _ | exact bb_t_ne _ | exact bb_f_ne _ | exact bb_same _ | exact bb_nsame _ | exact bi_same _ | exact bi_nsame _) | rfl); rfl)
      | (refine wl_pure tt_ok rfl rfl ?_)
      | (apply wl_load tt_ok; rfl; (repeat (first | exact List.Mem.head _ | apply List.Mem.tail)); rfl; rfl)
      | (refine wl_pf Try.call9 rfl rfl rfl (Ho) (fun _ _ => trivial) rfl ?_)
      | (refine wl_pf Try.call17 rfl rfl rfl (Hn) (fun _ _ => trivial) rfl ?_)
      | (refine wl_pf Try.call17 rfl rfl rfl (Hn') (fun _ _ => trivial) rfl ?_)
      | (refine wl_pf Try.call14 rfl rfl rfl (Hm) (fun _ _ => trivial) rfl ?_)
      | (refine wl_pf Try.call14 rfl rfl rfl (Hm') (fun _ _ => trivial) rfl ?_)
      | (refine wl_pf Try.call13 rfl rfl rfl (awake_any) (fun _ _ => trivial) rfl ?_)
      | (apply wl_store tt_ok; rfl; (repeat (first | exact Upd.here | apply Upd.there)); rfl; rfl; rfl; rfl; rfl; rfl)
      | (refine wl_box rfl rfl rfl (fun _ => ?_))
      | (refine wl_alloc tt_ok rfl rfl (fun _ => ?_))
      | (apply wl_yes; rfl; rfl; (with_reducible rfl))
      | (apply wl_no_t; rfl; rfl; (with_reducible rfl); rfl)
      | (apply wl_no_f; rfl; rfl; (with_reducible rfl); rfl)
      | (refine wl_guard rfl rfl (fun hc => ?_) (fun hc => ?_) <;> (first | (exfalso; contradiction) | ((try simp only [decide_eq_true_eq, decide_eq_false_iff_not, beq_iff_eq, bne_iff_ne, beq_eq_false_iff_ne, bne_eq_false_iff_eq, ne_eq, Decidable.not_not, Bool.not_eq_true', Bool.not_eq_false', Int.not_lt, Int.not_le] at hc); first | (exfalso; omega) | (exfalso; revert hc; decide) | skip)))
      | (with_reducible refine wl_nil ?_))
    | ((with_reducible (apply wc_id)); first
      | (with_reducible refine wc_seq ?_)
      | (with_reducible refine wc_region ?_)
      | (with_reducible refine wc_ret ?_)
      | (refine wc_cond rfl (fun hc => ?_) (fun hc => ?_) <;> (first | (exfalso; contradiction) | ((try simp only [decide_eq_true_eq, decide_eq_false_iff_not, beq_iff_eq, bne_iff_ne, beq_eq_false_iff_ne, bne_eq_false_iff_eq, ne_eq, Decidable.not_not, Bool.not_eq_true', Bool.not_eq_false', Int.not_lt, Int.not_le] at hc); first | (exfalso; omega) | (exfalso; revert hc; decide) | skip)))
      | (with_reducible refine wc_block ?_)
      | (with_reducible refine wc_skip ?_)
      | (with_reducible refine wc_exit ?_)
      | (with_reducible refine wc_quiet (by kernel_rfl) (by kernel_rfl) ?_))
    | ((with_reducible (apply wx_id)); first
      | (with_reducible refine wx_then ?_)
      | (with_reducible refine wx_block ?_)
      | (with_reducible refine wx_block_exit ?_)
      | (with_reducible refine wx_block_other (by rfl) ?_)
      | (with_reducible refine wx_block_ret ?_)
      | (with_reducible refine wx_then_exit ?_)
      | (with_reducible refine wx_then_ret ?_)
      | ((with_reducible (apply wx_pf tt_ok)); (first | exact .inl rfl | exact .inr rfl); (first | exact Try.results6 | rfl); (repeat (first | exact Res.nil | (apply Res.tmp; rfl) | (apply Res.cell; rfl; (repeat (first | exact List.Mem.head _ | apply List.Mem.tail)); rfl)))))
    | ((with_reducible (apply wq_id)); first
      | (apply wq_arith tt_ok; rfl; rfl; (first | ((with_reducible refine fit_div_i64 ?_ ?_) <;> omega) | ((with_reducible refine fit_div_i32 ?_ ?_) <;> omega) | ((with_reducible refine fit_div_u64 ?_ ?_) <;> omega) | ((with_reducible refine fit_i64 ?_); omega) | ((with_reducible refine fit_i32 ?_); omega) | ((with_reducible refine fit_u64 ?_); omega) | ((with_reducible refine fit_u8 ?_); omega) | ((with_reducible refine fit_u32 ?_); omega) | ((with_reducible refine fit_u16 ?_); omega) | rfl); rfl)
      | (apply wq_boolish tt_ok; rfl; rfl; (first | (with_reducible first | exact bb_not_t | exact bb_not_f | exact bb_eq_t _ | exact bb_eq_f _ | exact bb_t_eq _ | exact bb_f_eq _ | exact bb_ne_t _ | exact bb_ne_f _ | exact bb_t_ne _ | exact bb_f_ne _ | exact bb_same _ | exact bb_nsame _ | exact bi_same _ | exact bi_nsame _) | rfl); rfl)
      | (refine wq_pure tt_ok rfl rfl ?_)
      | (apply wq_load tt_ok; rfl; (repeat (first | exact List.Mem.head _ | apply List.Mem.tail)); rfl; rfl)
      | (refine wq_pf Try.call9 rfl rfl rfl (Ho) (fun _ _ => trivial) rfl ?_)
      | (refine wq_pf Try.call17 rfl rfl rfl (Hn) (fun _ _ => trivial) rfl ?_)
      | (refine wq_pf Try.call17 rfl rfl rfl (Hn') (fun _ _ => trivial) rfl ?_)
      | (refine wq_pf Try.call14 rfl rfl rfl (Hm) (fun _ _ => trivial) rfl ?_)
      | (refine wq_pf Try.call14 rfl rfl rfl (Hm') (fun _ _ => trivial) rfl ?_)
      | (refine wq_pf Try.call13 rfl rfl rfl (awake_any) (fun _ _ => trivial) rfl ?_)
      | (apply wq_yes; rfl; rfl; (with_reducible rfl))
      | (apply wq_no_t; rfl; rfl; (with_reducible rfl); rfl)
      | (apply wq_no_f; rfl; rfl; (with_reducible rfl); rfl)
      | (refine wq_guard rfl rfl (fun hc => ?_) (fun hc => ?_) <;> (first | (exfalso; contradiction) | ((try simp only [decide_eq_true_eq, decide_eq_false_iff_not, beq_iff_eq, bne_iff_ne, beq_eq_false_iff_ne, bne_eq_false_iff_eq, ne_eq, Decidable.not_not, Bool.not_eq_true', Bool.not_eq_false', Int.not_lt, Int.not_le] at hc); first | (exfalso; omega) | (exfalso; revert hc; decide) | skip)))
      | (with_reducible refine wq_nil ?_)))
     all_goals first | rfl | (exfalso; omega) | (exfalso; apply hc; have e1 : decide (m0 + m1 ≤ max m2 m3) = false := decide_eq_false (by omega); have e2 : (to == m0 + m1) = false := beq_false_of_ne a3; rw [e1, e2]))

theorem geomStays_walk (W : World) (c0 c1 c2 : List Value) (R0 : Rdw TT W 8 23 c0) (R1 : Rdw TT W 8 23 c1) (R2 : Rdw TT W 8 32 c2) :
    Calls Try.prog 6 #[.agg c0.toArray, .agg c1.toArray, .agg c2.toArray] W fun e w' => e = .returned (.bool true) ∧ Inv W [] w' [] := by
  obtain ⟨x, y, w, h, rfl, h1, h2, h3, h4⟩ := box_rd R0
  obtain ⟨x', y', w', h', rfl, h5, h6, h7, h8⟩ := box_rd R1
  obtain ⟨m0, m1, m2, m3, rfl, k0, k1, k2, k3⟩ := four_rd R2
  have Hn := Near_any x y w h x' y' w' h' h1 h2 h3 h4 h5 h6 h7 h8
  have Hn' := Near_any x' y' w' h' x y w h h5 h6 h7 h8 h1 h2 h3 h4
  have hsym : nearI x' y' w' h' x y w h = nearI x y w h x' y' w' h' := by
    rw [near_eq, near_eq]
    have e1 : gapI x' w' x w = gapI x w x' w' := by unfold gapI; omega
    have e2 : gapI y' h' y h = gapI y h y' h' := by unfold gapI; omega
    rw [e1, e2]
  rw [hsym] at Hn'
  have kl : I32 (min m2 m3) := by omega
  have kh : I32 (max m2 m3) := by omega
  have hA : I32 (moveA m0 m1 (min m2 m3) (max m2 m3)) := by unfold moveA; (repeat' split) <;> omega
  have hB : I32 (moveB m0 m1 (min m2 m3) (max m2 m3)) := by unfold moveB; (repeat' split) <;> omega
  refine (geomStays_core x y w h x' y' w' h' m0 m1 m2 m3 h1 h2 h3 h4 h5 h6 h7 h8 k0 k1 k2 k3 _ _ _ _ _ _ ?_ ?_ ?_ ?_ hA hB ?_ ?_ ?_
    (Over_any x y w h x' y' w' h' h1 h2 h3 h4 h5 h6 h7 h8) Hn Hn' (Move_any m0 m1 _ _ k0 k1 kl kh) (Move_any _ _ _ _ hA hB kl kh)).run W trivial
  · unfold nearI; omega
  · unfold overB nearI; simp only [decide_eq_true_eq]; omega
  · unfold moveA; (repeat' split) <;> omega
  · unfold moveA; (repeat' split) <;> omega
  · unfold moveA moveB; (repeat' split) <;> omega
  · unfold moveA moveB; (repeat' split) <;> omega
  · unfold moveA moveB; (repeat' split) <;> omega

set_option maxRecDepth 100000 in
theorem geomStays_lifted (os : Os) (started : os.Started) (H : Type) (enc : TypeId × Value → H) :
    ReturnsInHanded {} Try.checked os 6 .any (Rows.geomStaysSpec.pre6 enc Try.prog Try.f6 Rows.geomStaysRow.domain false) (Rows.geomStaysSpec.post enc Try.prog Try.f6 false true false false) := by
  refine returnsInHanded_of_change_sized (C := Try.checked) (by kernel_rfl) started (by kernel_rfl) Try.func6
    (ChangeSpec.witness6 (enc := enc) (C := Try.checked) false ⟨#[], #[.agg #[(.int .i32 0), (.int .i32 0), (.int .i32 0), (.int .i32 0)], .agg #[(.int .i32 0), (.int .i32 0), (.int .i32 0), (.int .i32 0)], .agg #[(.int .i32 0), (.int .i32 0), (.int .i32 0), (.int .i32 0)]], []⟩ 8 (by kernel_rfl) (by kernel_rfl) (by kernel_rfl) (by kernel_rfl)) ?_
  intro W base args ds gs before hval0 hW hcnd hsz0 _
  have hval : ∀ (j : Nat) t v, Try.f6.params[j]? = some t → args[j]? = some v → Value.okWide Try.prog W .any base t v := hval0
  have hW' := hW
  obtain ⟨p, q, hA0, hV, rfl, hfz, hnd⟩ := hW
  have hA : DataW.TrodAll enc Try.prog W 0 (fun _ => true) true Try.f6.params.toList args.toList ds p := hA0
  obtain ⟨rfl, rfl⟩ := trodVars_none hV
  have hsz : ∀ x ∈ DataW.weightsEach Try.prog Try.f6.params.toList ds, x ≤ maxB := by
    have h1 : (DataW.weightsEach Try.prog (Try.f6.params.toList ++ []) (ds ++ [])).all (· ≤ reachBytes) = true := hsz0
    simp only [List.append_nil] at h1
    intro x hx; have h2 := List.all_eq_true.1 h1 x hx; simp only [decide_eq_true_eq] at h2; exact h2
  rw [Try.params6] at hA hval hsz
  have hR := rdw_all tt_ok ctt_ok (closed_of tt_closed) (fun _ => rfl) 8 hA hsz
  have hback := fun (W2 : World) (hb : Below W.heap.size W W2) => trodAll_below (by kernel_rfl : laidOutB Try.prog = true) hb (by kernel_rfl) hA
  obtain ⟨v0, vs0, d0, ds0, p0, q0, hargs, rfl, rfl, h0, r0⟩ := trodAll_cons hA
  obtain ⟨v1, vs1, d1, ds1, p1, q1, rfl, rfl, rfl, h1, r1⟩ := trodAll_cons r0
  obtain ⟨v2, vs2, d2, ds2, p2, q2, rfl, rfl, rfl, h2, r2⟩ := trodAll_cons r1
  obtain ⟨rfl, rfl, rfl⟩ := trodAll_nil r2
  obtain rfl : args = #[v0, v1, v2] := by cases args; simp_all
  have R0 := hR 0 23 v0 rfl rfl
  have e0 := val_agg tt_ok (t := 23) rfl rfl (hval 0 23 v0 rfl rfl)
  generalize v0.cells.toList = c0 at e0 R0
  subst e0
  have R1 := hR 1 23 v1 rfl rfl
  have e1 := val_agg tt_ok (t := 23) rfl rfl (hval 1 23 v1 rfl rfl)
  generalize v1.cells.toList = c1 at e1 R1
  subst e1
  have R2 := hR 2 32 v2 rfl rfl
  have e2 := val_agg tt_ok (t := 32) rfl rfl (hval 2 32 v2 rfl rfl)
  generalize v2.cells.toList = c2 at e2 R2
  subst e2
  clear hval hval0 hsz hsz0 hR hA0
  refine (geomStays_walk W c0 c1 c2 R0 R1 R2).mono fun e W2 ⟨he, hI⟩ => ?_
  subst he
  exact ⟨_, rfl, _, _, _, [], _, [], hW', trodAll_mk1 (shut_bool Try.underlying4 _), hback _ (below_of_inv hI), rfl, (below_of_inv hI).frame _, fun h => by cases h⟩

theorem geomStays_holds : Rows.GeomStaysSaid :=
  OpenClaim.holds_of_wide 6 Try.f6 rfl rfl rfl rfl rfl rfl rfl ⟨rfl, rfl, rfl, rfl, rfl⟩ rfl rfl rfl rfl rfl (by kernel_rfl) Try.func6 (by kernel_rfl)
    (of_decide_eq_true (by kernel_rfl)) (by unfold Func.isWrapper; first | (rw [if_pos (by decide +kernel)]; kernel_rfl) | (rw [if_neg (by decide +kernel)]; exact ⟨rfl, rfl⟩))
    (fun os started H enc _ => geomStays_lifted os started H enc)

end Go.Proofs.Ytfmicjjbbeffjaa
