/-
  Laws of chapter 7 (geom): GeomOver (any two boxes), GeomMoves (any place, speed and walls), GeomNear (any two boxes):
  each returns true, whatever the input, and the arguments read behind the call as they read before. No condition.
-/
import Derived.Test.YtfmicjjbbeffjaaGeoLaw
import Derived.Test.YtfmicjjbbeffjaaRows
namespace Go.Proofs.Ytfmicjjbbeffjaa
open Go.Proofs.Ytfmicjjbbeffjaa.Eng Go.RowKit Go.ChangeShapes Go.WideShapes Go.ChangeAt
set_option linter.unusedSimpArgs false
set_option linter.unusedVariables false
set_option maxHeartbeats 2000000

theorem box_rd {w : World} {m : Nat} {cs : List Value} (h : Rdw TT w (m + 2) 23 cs) : ∃ x y u v : Int, cs = [.int .i32 x, .int .i32 y, .int .i32 u, .int .i32 v] ∧ I32 x ∧ I32 y ∧ I32 u ∧ I32 v := by
  obtain ⟨hl, hf⟩ := rd_struct h rfl
  match cs, hl with
  | [a, b, c, d], _ =>
    obtain ⟨x, rfl, wx⟩ := rd_cell (hf (21, 0) (by simp)) rfl
    obtain ⟨y, rfl, wy⟩ := rd_cell (hf (21, 1) (by simp)) rfl
    obtain ⟨u, rfl, wu⟩ := rd_cell (hf (21, 2) (by simp)) rfl
    obtain ⟨v, rfl, wv⟩ := rd_cell (hf (21, 3) (by simp)) rfl
    exact ⟨x, y, u, v, rfl, wf_i32 wx, wf_i32 wy, wf_i32 wu, wf_i32 wv⟩

theorem two_rd {w : World} {m : Nat} {cs : List Value} (h : Rdw TT w (m + 2) 26 cs) : ∃ x y : Int, cs = [.int .i32 x, .int .i32 y] ∧ I32 x ∧ I32 y := by
  obtain ⟨hl, hf⟩ := rd_arr h rfl
  match cs, hl with
  | [a, b], _ =>
    obtain ⟨x, rfl, wx⟩ := rd_cell (hf 0 (by omega)) rfl
    obtain ⟨y, rfl, wy⟩ := rd_cell (hf 1 (by omega)) rfl
    exact ⟨x, y, rfl, wf_i32 wx, wf_i32 wy⟩

theorem four_rd {w : World} {m : Nat} {cs : List Value} (h : Rdw TT w (m + 2) 32 cs) : ∃ x y u v : Int, cs = [.int .i32 x, .int .i32 y, .int .i32 u, .int .i32 v] ∧ I32 x ∧ I32 y ∧ I32 u ∧ I32 v := by
  obtain ⟨hl, hf⟩ := rd_arr h rfl
  match cs, hl with
  | [a, b, c, d], _ =>
    obtain ⟨x, rfl, wx⟩ := rd_cell (hf 0 (by omega)) rfl
    obtain ⟨y, rfl, wy⟩ := rd_cell (hf 1 (by omega)) rfl
    obtain ⟨u, rfl, wu⟩ := rd_cell (hf 2 (by omega)) rfl
    obtain ⟨v, rfl, wv⟩ := rd_cell (hf 3 (by omega)) rfl
    exact ⟨x, y, u, v, rfl, wf_i32 wx, wf_i32 wy, wf_i32 wu, wf_i32 wv⟩

theorem geomOver_any (x y w h x' y' w' h' : Int) (h1 : I32 x) (h2 : I32 y) (h3 : I32 w) (h4 : I32 h) (h5 : I32 x') (h6 : I32 y') (h7 : I32 w') (h8 : I32 h') :
    Pf Try.prog 3 [boxV x y w h, boxV x' y' w' h'] (fun _ => True) (.bool true) := by
  refine pf_of_wc Try.func3 rfl Try.ntmps3 rfl rfl (fun w0 hR => ?_)
  repeat' (first
    | ((with_reducible (apply wl_id)); first
      | (apply wl_arith tt_ok; rfl; rfl; (first | ((with_reducible refine fit_div_i64 ?_ ?_) <;> omega) | ((with_reducible refine fit_div_i32 ?_ ?_) <;> omega) | ((with_reducible refine fit_div_u64 ?_ ?_) <;> omega) | ((with_reducible refine fit_i64 ?_); omega) | ((with_reducible refine fit_i32 ?_); omega) | ((with_reducible refine fit_u64 ?_); omega) | ((with_reducible refine fit_u8 ?_); omega) | ((with_reducible refine fit_u32 ?_); omega) | ((with_reducible refine fit_u16 ?_); omega) | rfl); rfl)
      | (apply wl_boolish tt_ok; rfl; rfl; (first | (with_reducible first | exact bb_not_t | exact bb_not_f | exact bb_eq_t _ | exact bb_eq_f _ | exact bb_t_eq _ | exact bb_f_eq _ | exact bb_ne_t _ | exact bb_ne_f _ | exact bb_t_ne _ | exact bb_f_ne _ | exact bb_same _ | exact bb_nsame _ | exact bi_same _ | exact bi_nsame _) | rfl); rfl)
      | (refine wl_pure tt_ok rfl rfl ?_)
      | (apply wl_load tt_ok; rfl; (repeat (first | exact List.Mem.head _ | apply List.Mem.tail)); rfl; rfl)
      | (refine wl_pf Try.call9 rfl rfl rfl (Over_any _ _ _ _ _ _ _ _ (by omega) (by omega) (by omega) (by omega) (by omega) (by omega) (by omega) (by omega)) (fun _ _ => trivial) rfl ?_)
      | (refine wl_pf Try.call11 rfl rfl rfl (Inside_any _ _ _ _ _ _ _ _ (by omega) (by omega) (by omega) (by omega) (by omega) (by omega) (by omega) (by omega)) (fun _ _ => trivial) rfl ?_)
      | (refine wl_pf Try.call10 rfl rfl rfl (rOver_any _ _ _ _ _ _ _ _ (by omega) (by omega) (by omega) (by omega) (by omega) (by omega) (by omega) (by omega)) (fun _ _ => trivial) rfl ?_)
      | (refine wl_pf Try.call12 rfl rfl rfl (rInside_any _ _ _ _ _ _ _ _ (by omega) (by omega) (by omega) (by omega) (by omega) (by omega) (by omega) (by omega)) (fun _ _ => trivial) rfl ?_)
      | (refine wl_pf Try.call13 rfl rfl rfl (awake_any) (fun _ _ => trivial) rfl ?_)
      | (apply wl_store tt_ok; rfl; (repeat (first | exact Upd.here | apply Upd.there)); rfl; rfl; rfl; rfl; rfl; rfl)
      | (refine wl_box rfl rfl rfl (fun _ => ?_))
      | (refine wl_alloc tt_ok rfl rfl (fun _ => ?_))
      | (apply wl_yes; rfl; rfl; (with_reducible rfl))
      | (apply wl_no_t; rfl; rfl; (with_reducible rfl); rfl)
      | (apply wl_no_f; rfl; rfl; (with_reducible rfl); rfl)
      | (refine wl_guard rfl rfl (fun hc => ?_) (fun hc => ?_) <;> (first | (exfalso; contradiction) | ((try simp only [decide_eq_true_eq, decide_eq_false_iff_not, beq_iff_eq, bne_iff_ne, beq_eq_false_iff_ne, bne_eq_false_iff_eq, ne_eq, Decidable.not_not, Bool.not_eq_true', Bool.not_eq_false', Int.not_lt, Int.not_le] at hc); first | (exfalso; omega) | (exfalso; revert hc; decide) | skip)))
      | (with_reducible refine wl_nil ?_))
    | ((with_reducible (apply wc_id)); first
      | (with_reducible refine wc_seq ?_)
      | (with_reducible refine wc_region ?_)
      | (with_reducible refine wc_ret ?_)
      | (refine wc_cond rfl (fun hc => ?_) (fun hc => ?_) <;> (first | (exfalso; contradiction) | ((try simp only [decide_eq_true_eq, decide_eq_false_iff_not, beq_iff_eq, bne_iff_ne, beq_eq_false_iff_ne, bne_eq_false_iff_eq, ne_eq, Decidable.not_not, Bool.not_eq_true', Bool.not_eq_false', Int.not_lt, Int.not_le] at hc); first | (exfalso; omega) | (exfalso; revert hc; decide) | skip)))
      | (with_reducible refine wc_block ?_)
      | (with_reducible refine wc_skip ?_)
      | (with_reducible refine wc_exit ?_)
      | (with_reducible refine wc_quiet (by kernel_rfl) (by kernel_rfl) ?_))
    | ((with_reducible (apply wx_id)); first
      | (with_reducible refine wx_then ?_)
      | (with_reducible refine wx_block ?_)
      | (with_reducible refine wx_block_exit ?_)
      | (with_reducible refine wx_block_other (by rfl) ?_)
      | (with_reducible refine wx_block_ret ?_)
      | (with_reducible refine wx_then_exit ?_)
      | (with_reducible refine wx_then_ret ?_)
      | ((with_reducible (apply wx_pf tt_ok)); (first | exact .inl rfl | exact .inr rfl); (first | exact Try.results3 | rfl); (repeat (first | exact Res.nil | (apply Res.tmp; rfl) | (apply Res.cell; rfl; (repeat (first | exact List.Mem.head _ | apply List.Mem.tail)); rfl)))))
    | ((with_reducible (apply wq_id)); first
      | (apply wq_arith tt_ok; rfl; rfl; (first | ((with_reducible refine fit_div_i64 ?_ ?_) <;> omega) | ((with_reducible refine fit_div_i32 ?_ ?_) <;> omega) | ((with_reducible refine fit_div_u64 ?_ ?_) <;> omega) | ((with_reducible refine fit_i64 ?_); omega) | ((with_reducible refine fit_i32 ?_); omega) | ((with_reducible refine fit_u64 ?_); omega) | ((with_reducible refine fit_u8 ?_); omega) | ((with_reducible refine fit_u32 ?_); omega) | ((with_reducible refine fit_u16 ?_); omega) | rfl); rfl)
      | (apply wq_boolish tt_ok; rfl; rfl; (first | (with_reducible first | exact bb_not_t | exact bb_not_f | exact bb_eq_t _ | exact bb_eq_f _ | exact bb_t_eq _ | exact bb_f_eq _ | exact bb_ne_t _ | exact bb_ne_f _ | exact bb_t_ne _ | exact bb_f_ne _ | exact bb_same _ | exact bb_nsame _ | exact bi_same _ | exact bi_nsame _) | rfl); rfl)
      | (refine wq_pure tt_ok rfl rfl ?_)
      | (apply wq_load tt_ok; rfl; (repeat (first | exact List.Mem.head _ | apply List.Mem.tail)); rfl; rfl)
      | (refine wq_pf Try.call9 rfl rfl rfl (Over_any _ _ _ _ _ _ _ _ (by omega) (by omega) (by omega) (by omega) (by omega) (by omega) (by omega) (by omega)) (fun _ _ => trivial) rfl ?_)
      | (refine wq_pf Try.call11 rfl rfl rfl (Inside_any _ _ _ _ _ _ _ _ (by omega) (by omega) (by omega) (by omega) (by omega) (by omega) (by omega) (by omega)) (fun _ _ => trivial) rfl ?_)
      | (refine wq_pf Try.call10 rfl rfl rfl (rOver_any _ _ _ _ _ _ _ _ (by omega) (by omega) (by omega) (by omega) (by omega) (by omega) (by omega) (by omega)) (fun _ _ => trivial) rfl ?_)
      | (refine wq_pf Try.call12 rfl rfl rfl (rInside_any _ _ _ _ _ _ _ _ (by omega) (by omega) (by omega) (by omega) (by omega) (by omega) (by omega) (by omega)) (fun _ _ => trivial) rfl ?_)
      | (refine wq_pf Try.call13 rfl rfl rfl (awake_any) (fun _ _ => trivial) rfl ?_)
      | (apply wq_yes; rfl; rfl; (with_reducible rfl))
      | (apply wq_no_t; rfl; rfl; (with_reducible rfl); rfl)
      | (apply wq_no_f; rfl; rfl; (with_reducible rfl); rfl)
      | (refine wq_guard rfl rfl (fun hc => ?_) (fun hc => ?_) <;> (first | (exfalso; contradiction) | ((try simp only [decide_eq_true_eq, decide_eq_false_iff_not, beq_iff_eq, bne_iff_ne, beq_eq_false_iff_ne, bne_eq_false_iff_eq, ne_eq, Decidable.not_not, Bool.not_eq_true', Bool.not_eq_false', Int.not_lt, Int.not_le] at hc); first | (exfalso; omega) | (exfalso; revert hc; decide) | skip)))
      | (with_reducible refine wq_nil ?_)))
  all_goals first | rfl | (exfalso; simp at hc)

theorem geomOver_walk (W : World) (c0 c1 : List Value) (R0 : Rdw TT W 8 23 c0) (R1 : Rdw TT W 8 23 c1) :
    Calls Try.prog 3 #[.agg c0.toArray, .agg c1.toArray] W fun e w' => e = .returned (.bool true) ∧ Inv W [] w' [] := by
  obtain ⟨x, y, w, h, rfl, h1, h2, h3, h4⟩ := box_rd R0
  obtain ⟨x', y', w', h', rfl, h5, h6, h7, h8⟩ := box_rd R1
  exact (geomOver_any x y w h x' y' w' h' h1 h2 h3 h4 h5 h6 h7 h8).run W trivial

set_option maxRecDepth 100000 in
theorem geomOver_lifted (os : Os) (started : os.Started) (H : Type) (enc : TypeId × Value → H) :
    ReturnsInHanded {} Try.checked os 3 .any (Rows.geomOverSpec.pre6 enc Try.prog Try.f3 Rows.geomOverRow.domain false) (Rows.geomOverSpec.post enc Try.prog Try.f3 false true false false) := by
  refine returnsInHanded_of_change_sized (C := Try.checked) (by kernel_rfl) started (by kernel_rfl) Try.func3
    (ChangeSpec.witness6 (enc := enc) (C := Try.checked) false ⟨#[], #[.agg #[(.int .i32 0), (.int .i32 0), (.int .i32 0), (.int .i32 0)], .agg #[(.int .i32 0), (.int .i32 0), (.int .i32 0), (.int .i32 0)]], []⟩ 8 (by kernel_rfl) (by kernel_rfl) (by kernel_rfl) (by kernel_rfl)) ?_
  intro W base args ds gs before hval0 hW hcnd hsz0 _
  have hval : ∀ (j : Nat) t v, Try.f3.params[j]? = some t → args[j]? = some v → Value.okWide Try.prog W .any base t v := hval0
  have hW' := hW
  obtain ⟨p, q, hA0, hV, rfl, hfz, hnd⟩ := hW
  have hA : DataW.TrodAll enc Try.prog W 0 (fun _ => true) true Try.f3.params.toList args.toList ds p := hA0
  obtain ⟨rfl, rfl⟩ := trodVars_none hV
  have hsz : ∀ x ∈ DataW.weightsEach Try.prog Try.f3.params.toList ds, x ≤ maxB := by
    have h1 : (DataW.weightsEach Try.prog (Try.f3.params.toList ++ []) (ds ++ [])).all (· ≤ reachBytes) = true := hsz0
    simp only [List.append_nil] at h1
    intro x hx; have h2 := List.all_eq_true.1 h1 x hx; simp only [decide_eq_true_eq] at h2; exact h2
  rw [Try.params3] at hA hval hsz
  have hR := rdw_all tt_ok ctt_ok (closed_of tt_closed) (fun _ => rfl) 8 hA hsz
  have hback := fun (W2 : World) (hb : Below W.heap.size W W2) => trodAll_below (by kernel_rfl : laidOutB Try.prog = true) hb (by kernel_rfl) hA
  obtain ⟨v0, vs0, d0, ds0, p0, q0, hargs, rfl, rfl, h0, r0⟩ := trodAll_cons hA
  obtain ⟨v1, vs1, d1, ds1, p1, q1, rfl, rfl, rfl, h1, r1⟩ := trodAll_cons r0
  obtain ⟨rfl, rfl, rfl⟩ := trodAll_nil r1
  obtain rfl : args = #[v0, v1] := by cases args; simp_all
  have R0 := hR 0 23 v0 rfl rfl
  have e0 := val_agg tt_ok (t := 23) rfl rfl (hval 0 23 v0 rfl rfl)
  generalize v0.cells.toList = c0 at e0 R0
  subst e0
  have R1 := hR 1 23 v1 rfl rfl
  have e1 := val_agg tt_ok (t := 23) rfl rfl (hval 1 23 v1 rfl rfl)
  generalize v1.cells.toList = c1 at e1 R1
  subst e1
  clear hval hval0 hsz hsz0 hR hA0
  refine (geomOver_walk W c0 c1 R0 R1).mono fun e W2 ⟨he, hI⟩ => ?_
  subst he
  exact ⟨_, rfl, _, _, _, [], _, [], hW', trodAll_mk1 (shut_bool Try.underlying4 _), hback _ (below_of_inv hI), rfl, (below_of_inv hI).frame _, fun h => by cases h⟩

theorem geomOver_holds : Rows.GeomOverSaid :=
  OpenClaim.holds_of_wide 3 Try.f3 rfl rfl rfl rfl rfl rfl rfl ⟨rfl, rfl, rfl, rfl, rfl⟩ rfl rfl rfl rfl rfl (by kernel_rfl) Try.func3 (by kernel_rfl)
    (of_decide_eq_true (by kernel_rfl)) (by unfold Func.isWrapper; first | (rw [if_pos (by decide +kernel)]; kernel_rfl) | (rw [if_neg (by decide +kernel)]; exact ⟨rfl, rfl⟩))
    (fun os started H enc _ => geomOver_lifted os started H enc)

theorem geomMoves_any (x v lo hi : Int) (h1 : I32 x) (h2 : I32 v) (h3 : I32 lo) (h4 : I32 hi) :
    Pf Try.prog 4 [.int .i32 x, .int .i32 v, .agg #[.int .i32 lo, .int .i32 hi]] (fun _ => True) (.bool true) := by
  refine pf_of_wc Try.func4 rfl Try.ntmps4 rfl rfl (fun w0 hR => ?_)
  repeat' (first
    | ((with_reducible (apply wl_id)); first
      | (apply wl_arith tt_ok; rfl; rfl; (first | ((with_reducible refine fit_div_i64 ?_ ?_) <;> omega) | ((with_reducible refine fit_div_i32 ?_ ?_) <;> omega) | ((with_reducible refine fit_div_u64 ?_ ?_) <;> omega) | ((with_reducible refine fit_i64 ?_); omega) | ((with_reducible refine fit_i32 ?_); omega) | ((with_reducible refine fit_u64 ?_); omega) | ((with_reducible refine fit_u8 ?_); omega) | ((with_reducible refine fit_u32 ?_); omega) | ((with_reducible refine fit_u16 ?_); omega) | rfl); rfl)
      | (apply wl_boolish tt_ok; rfl; rfl; (first | (with_reducible first | exact bb_not_t | exact bb_not_f | exact bb_eq_t _ | exact bb_eq_f _ | exact bb_t_eq _ | exact bb_f_eq _ | exact bb_ne_t _ | exact bb_ne_f _ | exact bb_t_ne _ | exact bb_f_ne _ | exact bb_same _ | exact bb_nsame _ | exact bi_same _ | exact bi_nsame _) | rfl); rfl)
      | (refine wl_pure tt_ok rfl rfl ?_)
      | (apply wl_load tt_ok; rfl; (repeat (first | exact List.Mem.head _ | apply List.Mem.tail)); rfl; rfl)
      | (refine wl_pf Try.call14 rfl rfl rfl (Move_any _ _ _ _ (by omega) (by omega) (by omega) (by omega)) (fun _ _ => trivial) rfl ?_)
      | (refine wl_pf Try.call15 rfl rfl rfl (rMove_any _ _ _ _ (by omega) (by omega) (by omega) (by omega)) (fun _ _ => trivial) rfl ?_)
      | (refine wl_pf Try.call13 rfl rfl rfl (awake_any) (fun _ _ => trivial) rfl ?_)
      | (apply wl_store tt_ok; rfl; (repeat (first | exact Upd.here | apply Upd.there)); rfl; rfl; rfl; rfl; rfl; rfl)
      | (refine wl_box rfl rfl rfl (fun _ => ?_))
      | (refine wl_alloc tt_ok rfl rfl (fun _ => ?_))
      | (apply wl_yes; rfl; rfl; (with_reducible rfl))
      | (apply wl_no_t; rfl; rfl; (with_reducible rfl); rfl)
      | (apply wl_no_f; rfl; rfl; (with_reducible rfl); rfl)
      | (refine wl_guard rfl rfl (fun hc => ?_) (fun hc => ?_) <;> (first | (exfalso; contradiction) | ((try simp only [decide_eq_true_eq, decide_eq_false_iff_not, beq_iff_eq, bne_iff_ne, beq_eq_false_iff_ne, bne_eq_false_iff_eq, ne_eq, Decidable.not_not, Bool.not_eq_true', Bool.not_eq_false', Int.not_lt, Int.not_le] at hc); first | (exfalso; omega) | (exfalso; revert hc; decide) | skip)))
      | (with_reducible refine wl_nil ?_))
    | ((with_reducible (apply wc_id)); first
      | (with_reducible refine wc_seq ?_)
      | (with_reducible refine wc_region ?_)
      | (with_reducible refine wc_ret ?_)
      | (refine wc_cond rfl (fun hc => ?_) (fun hc => ?_) <;> (first | (exfalso; contradiction) | ((try simp only [decide_eq_true_eq, decide_eq_false_iff_not, beq_iff_eq, bne_iff_ne, beq_eq_false_iff_ne, bne_eq_false_iff_eq, ne_eq, Decidable.not_not, Bool.not_eq_true', Bool.not_eq_false', Int.not_lt, Int.not_le] at hc); first | (exfalso; omega) | (exfalso; revert hc; decide) | skip)))
      | (with_reducible refine wc_block ?_)
      | (with_reducible refine wc_skip ?_)
      | (with_reducible refine wc_exit ?_)
      | (with_reducible refine wc_quiet (by kernel_rfl) (by kernel_rfl) ?_))
    | ((with_reducible (apply wx_id)); first
      | (with_reducible refine wx_then ?_)
      | (with_reducible refine wx_block ?_)
      | (with_reducible refine wx_block_exit ?_)
      | (with_reducible refine wx_block_other (by rfl) ?_)
      | (with_reducible refine wx_block_ret ?_)
      | (with_reducible refine wx_then_exit ?_)
      | (with_reducible refine wx_then_ret ?_)
      | ((with_reducible (apply wx_pf tt_ok)); (first | exact .inl rfl | exact .inr rfl); (first | exact Try.results4 | rfl); (repeat (first | exact Res.nil | (apply Res.tmp; rfl) | (apply Res.cell; rfl; (repeat (first | exact List.Mem.head _ | apply List.Mem.tail)); rfl)))))
    | ((with_reducible (apply wq_id)); first
      | (apply wq_arith tt_ok; rfl; rfl; (first | ((with_reducible refine fit_div_i64 ?_ ?_) <;> omega) | ((with_reducible refine fit_div_i32 ?_ ?_) <;> omega) | ((with_reducible refine fit_div_u64 ?_ ?_) <;> omega) | ((with_reducible refine fit_i64 ?_); omega) | ((with_reducible refine fit_i32 ?_); omega) | ((with_reducible refine fit_u64 ?_); omega) | ((with_reducible refine fit_u8 ?_); omega) | ((with_reducible refine fit_u32 ?_); omega) | ((with_reducible refine fit_u16 ?_); omega) | rfl); rfl)
      | (apply wq_boolish tt_ok; rfl; rfl; (first | (with_reducible first | exact bb_not_t | exact bb_not_f | exact bb_eq_t _ | exact bb_eq_f _ | exact bb_t_eq _ | exact bb_f_eq _ | exact bb_ne_t _ | exact bb_ne_f _ | exact bb_t_ne _ | exact bb_f_ne _ | exact bb_same _ | exact bb_nsame _ | exact bi_same _ | exact bi_nsame _) | rfl); rfl)
      | (refine wq_pure tt_ok rfl rfl ?_)
      | (apply wq_load tt_ok; rfl; (repeat (first | exact List.Mem.head _ | apply List.Mem.tail)); rfl; rfl)
      | (refine wq_pf Try.call14 rfl rfl rfl (Move_any _ _ _ _ (by omega) (by omega) (by omega) (by omega)) (fun _ _ => trivial) rfl ?_)
      | (refine wq_pf Try.call15 rfl rfl rfl (rMove_any _ _ _ _ (by omega) (by omega) (by omega) (by omega)) (fun _ _ => trivial) rfl ?_)
      | (refine wq_pf Try.call13 rfl rfl rfl (awake_any) (fun _ _ => trivial) rfl ?_)
      | (apply wq_yes; rfl; rfl; (with_reducible rfl))
      | (apply wq_no_t; rfl; rfl; (with_reducible rfl); rfl)
      | (apply wq_no_f; rfl; rfl; (with_reducible rfl); rfl)
      | (refine wq_guard rfl rfl (fun hc => ?_) (fun hc => ?_) <;> (first | (exfalso; contradiction) | ((try simp only [decide_eq_true_eq, decide_eq_false_iff_not, beq_iff_eq, bne_iff_ne, beq_eq_false_iff_ne, bne_eq_false_iff_eq, ne_eq, Decidable.not_not, Bool.not_eq_true', Bool.not_eq_false', Int.not_lt, Int.not_le] at hc); first | (exfalso; omega) | (exfalso; revert hc; decide) | skip)))
      | (with_reducible refine wq_nil ?_)))
  all_goals first | rfl | (exfalso; simp at hc)

theorem geomMoves_walk (W : World) (v0 v1 : Value) (c2 : List Value) (R0 : Rdw TT W 8 21 [v0]) (R1 : Rdw TT W 8 21 [v1]) (R2 : Rdw TT W 8 26 c2) :
    Calls Try.prog 4 #[v0, v1, .agg c2.toArray] W fun e w' => e = .returned (.bool true) ∧ Inv W [] w' [] := by
  obtain ⟨x, rfl, wx⟩ := rd_cell R0 rfl
  obtain ⟨v, rfl, wv⟩ := rd_cell R1 rfl
  obtain ⟨lo, hi, rfl, h3, h4⟩ := two_rd R2
  exact (geomMoves_any x v lo hi (wf_i32 wx) (wf_i32 wv) h3 h4).run W trivial

set_option maxRecDepth 100000 in
theorem geomMoves_lifted (os : Os) (started : os.Started) (H : Type) (enc : TypeId × Value → H) :
    ReturnsInHanded {} Try.checked os 4 .any (Rows.geomMovesSpec.pre6 enc Try.prog Try.f4 Rows.geomMovesRow.domain false) (Rows.geomMovesSpec.post enc Try.prog Try.f4 false true false false) := by
  refine returnsInHanded_of_change_sized (C := Try.checked) (by kernel_rfl) started (by kernel_rfl) Try.func4
    (ChangeSpec.witness6 (enc := enc) (C := Try.checked) false ⟨#[], #[.int .i32 0, .int .i32 0, .agg #[(.int .i32 0), (.int .i32 0)]], []⟩ 8 (by kernel_rfl) (by kernel_rfl) (by kernel_rfl) (by kernel_rfl)) ?_
  intro W base args ds gs before hval0 hW hcnd hsz0 _
  have hval : ∀ (j : Nat) t v, Try.f4.params[j]? = some t → args[j]? = some v → Value.okWide Try.prog W .any base t v := hval0
  have hW' := hW
  obtain ⟨p, q, hA0, hV, rfl, hfz, hnd⟩ := hW
  have hA : DataW.TrodAll enc Try.prog W 0 (fun _ => true) true Try.f4.params.toList args.toList ds p := hA0
  obtain ⟨rfl, rfl⟩ := trodVars_none hV
  have hsz : ∀ x ∈ DataW.weightsEach Try.prog Try.f4.params.toList ds, x ≤ maxB := by
    have h1 : (DataW.weightsEach Try.prog (Try.f4.params.toList ++ []) (ds ++ [])).all (· ≤ reachBytes) = true := hsz0
    simp only [List.append_nil] at h1
    intro x hx; have h2 := List.all_eq_true.1 h1 x hx; simp only [decide_eq_true_eq] at h2; exact h2
  rw [Try.params4] at hA hval hsz
  have hR := rdw_all tt_ok ctt_ok (closed_of tt_closed) (fun _ => rfl) 8 hA hsz
  have hback := fun (W2 : World) (hb : Below W.heap.size W W2) => trodAll_below (by kernel_rfl : laidOutB Try.prog = true) hb (by kernel_rfl) hA
  obtain ⟨v0, vs0, d0, ds0, p0, q0, hargs, rfl, rfl, h0, r0⟩ := trodAll_cons hA
  obtain ⟨v1, vs1, d1, ds1, p1, q1, rfl, rfl, rfl, h1, r1⟩ := trodAll_cons r0
  obtain ⟨v2, vs2, d2, ds2, p2, q2, rfl, rfl, rfl, h2, r2⟩ := trodAll_cons r1
  obtain ⟨rfl, rfl, rfl⟩ := trodAll_nil r2
  obtain rfl : args = #[v0, v1, v2] := by cases args; simp_all
  have R0 := hR 0 21 v0 rfl rfl
  have e0 := val_one tt_ok (t := 21) rfl (by intro h; cases h) rfl (hval 0 21 v0 rfl rfl)
  rw [e0] at R0
  have R1 := hR 1 21 v1 rfl rfl
  have e1 := val_one tt_ok (t := 21) rfl (by intro h; cases h) rfl (hval 1 21 v1 rfl rfl)
  rw [e1] at R1
  have R2 := hR 2 26 v2 rfl rfl
  have e2 := val_agg tt_ok (t := 26) rfl rfl (hval 2 26 v2 rfl rfl)
  generalize v2.cells.toList = c2 at e2 R2
  subst e2
  clear hval hval0 hsz hsz0 hR hA0
  refine (geomMoves_walk W v0 v1 c2 R0 R1 R2).mono fun e W2 ⟨he, hI⟩ => ?_
  subst he
  exact ⟨_, rfl, _, _, _, [], _, [], hW', trodAll_mk1 (shut_bool Try.underlying4 _), hback _ (below_of_inv hI), rfl, (below_of_inv hI).frame _, fun h => by cases h⟩

theorem geomMoves_holds : Rows.GeomMovesSaid :=
  OpenClaim.holds_of_wide 4 Try.f4 rfl rfl rfl rfl rfl rfl rfl ⟨rfl, rfl, rfl, rfl, rfl⟩ rfl rfl rfl rfl rfl (by kernel_rfl) Try.func4 (by kernel_rfl)
    (of_decide_eq_true (by kernel_rfl)) (by unfold Func.isWrapper; first | (rw [if_pos (by decide +kernel)]; kernel_rfl) | (rw [if_neg (by decide +kernel)]; exact ⟨rfl, rfl⟩))
    (fun os started H enc _ => geomMoves_lifted os started H enc)

theorem geomNear_any (x y w h x' y' w' h' : Int) (h1 : I32 x) (h2 : I32 y) (h3 : I32 w) (h4 : I32 h) (h5 : I32 x') (h6 : I32 y') (h7 : I32 w') (h8 : I32 h') :
    Pf Try.prog 7 [boxV x y w h, boxV x' y' w' h'] (fun _ => True) (.bool true) := by
  refine pf_of_wc Try.func7 rfl Try.ntmps7 rfl rfl (fun w0 hR => ?_)
  repeat' (first
    | ((with_reducible (apply wl_id)); first
      | (apply wl_arith tt_ok; rfl; rfl; (first | ((with_reducible refine fit_div_i64 ?_ ?_) <;> omega) | ((with_reducible refine fit_div_i32 ?_ ?_) <;> omega) | ((with_reducible refine fit_div_u64 ?_ ?_) <;> omega) | ((with_reducible refine fit_i64 ?_); omega) | ((with_reducible refine fit_i32 ?_); omega) | ((with_reducible refine fit_u64 ?_); omega) | ((with_reducible refine fit_u8 ?_); omega) | ((with_reducible refine fit_u32 ?_); omega) | ((with_reducible refine fit_u16 ?_); omega) | rfl); rfl)
      | (apply wl_boolish tt_ok; rfl; rfl; (first | (with_reducible first | exact bb_not_t | exact bb_not_f | exact bb_eq_t _ | exact bb_eq_f _ | exact bb_t_eq _ | exact bb_f_eq _ | exact bb_ne_t _ | exact bb_ne_f _ | exact bb_t_ne _ | exact bb_f_ne _ | exact bb_same _ | exact bb_nsame _ | exact bi_same _ | exact bi_nsame _) | rfl); rfl)
      | (refine wl_pure tt_ok rfl rfl ?_)
      | (apply wl_load tt_ok; rfl; (repeat (first | exact List.Mem.head _ | apply List.Mem.tail)); rfl; rfl)
      | (refine wl_pf Try.call18 rfl rfl rfl (Centre_any _ _ _ _ (by omega) (by omega) (by omega) (by omega)) (fun _ _ => trivial) rfl ?_)
      | (refine wl_pf Try.call19 rfl rfl rfl (rCentre_any _ _ _ _ (by omega) (by omega) (by omega) (by omega)) (fun _ _ => trivial) rfl ?_)
      | (refine wl_pf Try.call17 rfl rfl rfl (Near_any _ _ _ _ _ _ _ _ (by omega) (by omega) (by omega) (by omega) (by omega) (by omega) (by omega) (by omega)) (fun _ _ => trivial) rfl ?_)
      | (refine wl_pf Try.call20 rfl rfl rfl (rNear_any _ _ _ _ _ _ _ _ (by omega) (by omega) (by omega) (by omega) (by omega) (by omega) (by omega) (by omega)) (fun _ _ => trivial) rfl ?_)
      | (refine wl_pf Try.call13 rfl rfl rfl (awake_any) (fun _ _ => trivial) rfl ?_)
      | (apply wl_store tt_ok; rfl; (repeat (first | exact Upd.here | apply Upd.there)); rfl; rfl; rfl; rfl; rfl; rfl)
      | (refine wl_box rfl rfl rfl (fun _ => ?_))
      | (refine wl_alloc tt_ok rfl rfl (fun _ => ?_))
      | (apply wl_yes; rfl; rfl; (with_reducible rfl))
      | (apply wl_no_t; rfl; rfl; (with_reducible rfl); rfl)
      | (apply wl_no_f; rfl; rfl; (with_reducible rfl); rfl)
      | (refine wl_guard rfl rfl (fun hc => ?_) (fun hc => ?_) <;> (first | (exfalso; contradiction) | ((try simp only [decide_eq_true_eq, decide_eq_false_iff_not, beq_iff_eq, bne_iff_ne, beq_eq_false_iff_ne, bne_eq_false_iff_eq, ne_eq, Decidable.not_not, Bool.not_eq_true', Bool.not_eq_false', Int.not_lt, Int.not_le] at hc); first | (exfalso; omega) | (exfalso; revert hc; decide) | skip)))
      | (with_reducible refine wl_nil ?_))
    | ((with_reducible (apply wc_id)); first
      | (with_reducible refine wc_seq ?_)
      | (with_reducible refine wc_region ?_)
      | (with_reducible refine wc_ret ?_)
      | (refine wc_cond rfl (fun hc => ?_) (fun hc => ?_) <;> (first | (exfalso; contradiction) | ((try simp only [decide_eq_true_eq, decide_eq_false_iff_not, beq_iff_eq, bne_iff_ne, beq_eq_false_iff_ne, bne_eq_false_iff_eq, ne_eq, Decidable.not_not, Bool.not_eq_true', Bool.not_eq_false', Int.not_lt, Int.not_le] at hc); first | (exfalso; omega) | (exfalso; revert hc; decide) | skip)))
      | (with_reducible refine wc_block ?_)
      | (with_reducible refine wc_skip ?_)
      | (with_reducible refine wc_exit ?_)
      | (with_reducible refine wc_quiet (by kernel_rfl) (by kernel_rfl) ?_))
    | ((with_reducible (apply wx_id)); first
      | (with_reducible refine wx_then ?_)
      | (with_reducible refine wx_block ?_)
      | (with_reducible refine wx_block_exit ?_)
      | (with_reducible refine wx_block_other (by rfl) ?_)
      | (with_reducible refine wx_block_ret ?_)
      | (with_reducible refine wx_then_exit ?_)
      | (with_reducible refine wx_then_ret ?_)
      | ((with_reducible (apply wx_pf tt_ok)); (first | exact .inl rfl | exact .inr rfl); (first | exact Try.results7 | rfl); (repeat (first | exact Res.nil | (apply Res.tmp; rfl) | (apply Res.cell; rfl; (repeat (first | exact List.Mem.head _ | apply List.Mem.tail)); rfl)))))
    | ((with_reducible (apply wq_id)); first
      | (apply wq_arith tt_ok; rfl; rfl; (first | ((with_reducible refine fit_div_i64 ?_ ?_) <;> omega) | ((with_reducible refine fit_div_i32 ?_ ?_) <;> omega) | ((with_reducible refine fit_div_u64 ?_ ?_) <;> omega) | ((with_reducible refine fit_i64 ?_); omega) | ((with_reducible refine fit_i32 ?_); omega) | ((with_reducible refine fit_u64 ?_); omega) | ((with_reducible refine fit_u8 ?_); omega) | ((with_reducible refine fit_u32 ?_); omega) | ((with_reducible refine fit_u16 ?_); omega) | rfl); rfl)
      | (apply wq_boolish tt_ok; rfl; rfl; (first | (with_reducible first | exact bb_not_t | exact bb_not_f | exact bb_eq_t _ | exact bb_eq_f _ | exact bb_t_eq _ | exact bb_f_eq _ | exact bb_ne_t _ | exact bb_ne_f _ | exact bb_t_ne _ | exact bb_f_ne _ | exact bb_same _ | exact bb_nsame _ | exact bi_same _ | exact bi_nsame _) | rfl); rfl)
      | (refine wq_pure tt_ok rfl rfl ?_)
      | (apply wq_load tt_ok; rfl; (repeat (first | exact List.Mem.head _ | apply List.Mem.tail)); rfl; rfl)
      | (refine wq_pf Try.call18 rfl rfl rfl (Centre_any _ _ _ _ (by omega) (by omega) (by omega) (by omega)) (fun _ _ => trivial) rfl ?_)
      | (refine wq_pf Try.call19 rfl rfl rfl (rCentre_any _ _ _ _ (by omega) (by omega) (by omega) (by omega)) (fun _ _ => trivial) rfl ?_)
      | (refine wq_pf Try.call17 rfl rfl rfl (Near_any _ _ _ _ _ _ _ _ (by omega) (by omega) (by omega) (by omega) (by omega) (by omega) (by omega) (by omega)) (fun _ _ => trivial) rfl ?_)
      | (refine wq_pf Try.call20 rfl rfl rfl (rNear_any _ _ _ _ _ _ _ _ (by omega) (by omega) (by omega) (by omega) (by omega) (by omega) (by omega) (by omega)) (fun _ _ => trivial) rfl ?_)
      | (refine wq_pf Try.call13 rfl rfl rfl (awake_any) (fun _ _ => trivial) rfl ?_)
      | (apply wq_yes; rfl; rfl; (with_reducible rfl))
      | (apply wq_no_t; rfl; rfl; (with_reducible rfl); rfl)
      | (apply wq_no_f; rfl; rfl; (with_reducible rfl); rfl)
      | (refine wq_guard rfl rfl (fun hc => ?_) (fun hc => ?_) <;> (first | (exfalso; contradiction) | ((try simp only [decide_eq_true_eq, decide_eq_false_iff_not, beq_iff_eq, bne_iff_ne, beq_eq_false_iff_ne, bne_eq_false_iff_eq, ne_eq, Decidable.not_not, Bool.not_eq_true', Bool.not_eq_false', Int.not_lt, Int.not_le] at hc); first | (exfalso; omega) | (exfalso; revert hc; decide) | skip)))
      | (with_reducible refine wq_nil ?_)))
  all_goals first | rfl | (exfalso; simp at hc)

theorem geomNear_walk (W : World) (c0 c1 : List Value) (R0 : Rdw TT W 8 23 c0) (R1 : Rdw TT W 8 23 c1) :
    Calls Try.prog 7 #[.agg c0.toArray, .agg c1.toArray] W fun e w' => e = .returned (.bool true) ∧ Inv W [] w' [] := by
  obtain ⟨x, y, w, h, rfl, h1, h2, h3, h4⟩ := box_rd R0
  obtain ⟨x', y', w', h', rfl, h5, h6, h7, h8⟩ := box_rd R1
  exact (geomNear_any x y w h x' y' w' h' h1 h2 h3 h4 h5 h6 h7 h8).run W trivial

set_option maxRecDepth 100000 in
theorem geomNear_lifted (os : Os) (started : os.Started) (H : Type) (enc : TypeId × Value → H) :
    ReturnsInHanded {} Try.checked os 7 .any (Rows.geomNearSpec.pre6 enc Try.prog Try.f7 Rows.geomNearRow.domain false) (Rows.geomNearSpec.post enc Try.prog Try.f7 false true false false) := by
  refine returnsInHanded_of_change_sized (C := Try.checked) (by kernel_rfl) started (by kernel_rfl) Try.func7
    (ChangeSpec.witness6 (enc := enc) (C := Try.checked) false ⟨#[], #[.agg #[(.int .i32 0), (.int .i32 0), (.int .i32 0), (.int .i32 0)], .agg #[(.int .i32 0), (.int .i32 0), (.int .i32 0), (.int .i32 0)]], []⟩ 8 (by kernel_rfl) (by kernel_rfl) (by kernel_rfl) (by kernel_rfl)) ?_
  intro W base args ds gs before hval0 hW hcnd hsz0 _
  have hval : ∀ (j : Nat) t v, Try.f7.params[j]? = some t → args[j]? = some v → Value.okWide Try.prog W .any base t v := hval0
  have hW' := hW
  obtain ⟨p, q, hA0, hV, rfl, hfz, hnd⟩ := hW
  have hA : DataW.TrodAll enc Try.prog W 0 (fun _ => true) true Try.f7.params.toList args.toList ds p := hA0
  obtain ⟨rfl, rfl⟩ := trodVars_none hV
  have hsz : ∀ x ∈ DataW.weightsEach Try.prog Try.f7.params.toList ds, x ≤ maxB := by
    have h1 : (DataW.weightsEach Try.prog (Try.f7.params.toList ++ []) (ds ++ [])).all (· ≤ reachBytes) = true := hsz0
    simp only [List.append_nil] at h1
    intro x hx; have h2 := List.all_eq_true.1 h1 x hx; simp only [decide_eq_true_eq] at h2; exact h2
  rw [Try.params7] at hA hval hsz
  have hR := rdw_all tt_ok ctt_ok (closed_of tt_closed) (fun _ => rfl) 8 hA hsz
  have hback := fun (W2 : World) (hb : Below W.heap.size W W2) => trodAll_below (by kernel_rfl : laidOutB Try.prog = true) hb (by kernel_rfl) hA
  obtain ⟨v0, vs0, d0, ds0, p0, q0, hargs, rfl, rfl, h0, r0⟩ := trodAll_cons hA
  obtain ⟨v1, vs1, d1, ds1, p1, q1, rfl, rfl, rfl, h1, r1⟩ := trodAll_cons r0
  obtain ⟨rfl, rfl, rfl⟩ := trodAll_nil r1
  obtain rfl : args = #[v0, v1] := by cases args; simp_all
  have R0 := hR 0 23 v0 rfl rfl
  have e0 := val_agg tt_ok (t := 23) rfl rfl (hval 0 23 v0 rfl rfl)
  generalize v0.cells.toList = c0 at e0 R0
  subst e0
  have R1 := hR 1 23 v1 rfl rfl
  have e1 := val_agg tt_ok (t := 23) rfl rfl (hval 1 23 v1 rfl rfl)
  generalize v1.cells.toList = c1 at e1 R1
  subst e1
  clear hval hval0 hsz hsz0 hR hA0
  refine (geomNear_walk W c0 c1 R0 R1).mono fun e W2 ⟨he, hI⟩ => ?_
  subst he
  exact ⟨_, rfl, _, _, _, [], _, [], hW', trodAll_mk1 (shut_bool Try.underlying4 _), hback _ (below_of_inv hI), rfl, (below_of_inv hI).frame _, fun h => by cases h⟩

theorem geomNear_holds : Rows.GeomNearSaid :=
  OpenClaim.holds_of_wide 7 Try.f7 rfl rfl rfl rfl rfl rfl rfl ⟨rfl, rfl, rfl, rfl, rfl⟩ rfl rfl rfl rfl rfl (by kernel_rfl) Try.func7 (by kernel_rfl)
    (of_decide_eq_true (by kernel_rfl)) (by unfold Func.isWrapper; first | (rw [if_pos (by decide +kernel)]; kernel_rfl) | (rw [if_neg (by decide +kernel)]; exact ⟨rfl, rfl⟩))
    (fun os started H enc _ => geomNear_lifted os started H enc)

#print axioms geomOver_holds
#print axioms geomMoves_holds
#print axioms geomNear_holds
end Go.Proofs.Ytfmicjjbbeffjaa
