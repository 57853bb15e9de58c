/-
  Chapter 24 (queue): what the queue's functions answer. The queue lies in a block (first, its list, the last input); the list's bytes in a block of its own, or it is nil.
-/
import Derived.Test.YtfjmhnfaoifehaaTab
namespace Go.Proofs.Ytfjmhnfaoifehaa
open Go.Proofs.Ytfjmhnfaoifehaa.Eng Go.RowKit Go.ChangeShapes Go.WideShapes Go.ChangeAt
set_option linter.unusedSimpArgs false
set_option linter.unusedVariables false
set_option maxHeartbeats 2000000

abbrev U64 (n : Int) : Prop := 0 ≤ n ∧ n ≤ 18446744073709551615
abbrev QB (b : Nat) (first : Int) (sv : Value) (last : Int) : Blk := ⟨b, [.int .u64 first, sv, .int .u8 last], 52, (0, 0)⟩

theorem legal_any (i : Int) : Pf Try.prog 27 [.int .u8 i] (fun _ => True) (.bool (decide (i < 64))) := by
  refine pf_of_wc Try.func27 rfl Try.ntmps27 rfl rfl (fun w0 hR => ?_)
  repeat' (first
    | ((with_reducible (apply wl_id)); first
      | (apply wl_arith tt_ok; rfl; rfl; (first | ((with_reducible refine fit_div_i64 ?_ ?_) <;> omega) | ((with_reducible refine fit_div_i32 ?_ ?_) <;> omega) | ((with_reducible refine fit_div_u64 ?_ ?_) <;> omega) | ((with_reducible refine fit_i64 ?_); omega) | ((with_reducible refine fit_i32 ?_); omega) | ((with_reducible refine fit_u64 ?_); omega) | ((with_reducible refine fit_u8 ?_); omega) | ((with_reducible refine fit_u32 ?_); omega) | ((with_reducible refine fit_u16 ?_); omega) | rfl); rfl)
      | (apply wl_boolish tt_ok; rfl; rfl; (first | (with_reducible first | exact bb_not_t | exact bb_not_f | exact bb_eq_t _ | exact bb_eq_f _ | exact bb_t_eq _ | exact bb_f_eq _ | exact bb_ne_t _ | exact bb_ne_f _ | exact bb_t_ne _ | exact bb_f_ne _ | exact bb_same _ | exact bb_nsame _ | exact bi_same _ | exact bi_nsame _) | rfl); rfl)
      | (refine wl_pure tt_ok rfl rfl ?_)
      | (apply wl_load tt_ok; rfl; (repeat (first | exact List.Mem.head _ | apply List.Mem.tail)); rfl; rfl)
      | (apply wl_store tt_ok; rfl; (repeat (first | exact Upd.here | apply Upd.there)); rfl; rfl; rfl; rfl; rfl; rfl)
      | (refine wl_box rfl rfl rfl (fun _ => ?_))
      | (apply wl_build1 tt_ok; rfl; rfl; rfl; rfl; rfl; intro _)
      | (refine wl_alloc tt_ok rfl rfl (fun _ => ?_))
      | (apply wl_yes; rfl; rfl; (with_reducible rfl))
      | (apply wl_no_t; rfl; rfl; (with_reducible rfl); rfl)
      | (apply wl_no_f; rfl; rfl; (with_reducible rfl); rfl)
      | (apply wl_no_u; rfl; rfl; rfl)
      | (refine wl_guard rfl rfl (fun hc => ?_) (fun hc => ?_) <;> (first | (exfalso; contradiction) | ((try simp only [decide_eq_true_eq, decide_eq_false_iff_not, beq_iff_eq, bne_iff_ne, beq_eq_false_iff_ne, bne_eq_false_iff_eq, ne_eq, Decidable.not_not, Bool.not_eq_true', Bool.not_eq_false', Int.not_lt, Int.not_le] at hc); first | (exfalso; omega) | (exfalso; revert hc; decide) | skip)))
      | (with_reducible refine wl_nil ?_))
    | ((with_reducible (apply wc_id)); first
      | (with_reducible refine wc_seq ?_)
      | (with_reducible refine wc_region ?_)
      | (with_reducible refine wc_ret ?_)
      | (refine wc_cond rfl (fun hc => ?_) (fun hc => ?_) <;> (first | (exfalso; contradiction) | ((try simp only [decide_eq_true_eq, decide_eq_false_iff_not, beq_iff_eq, bne_iff_ne, beq_eq_false_iff_ne, bne_eq_false_iff_eq, ne_eq, Decidable.not_not, Bool.not_eq_true', Bool.not_eq_false', Int.not_lt, Int.not_le] at hc); first | (exfalso; omega) | (exfalso; revert hc; decide) | skip)))
      | (with_reducible refine wc_block ?_)
      | (with_reducible refine wc_skip ?_)
      | (with_reducible refine wc_exit ?_)
      | (with_reducible refine wc_quiet (by kernel_rfl) (by kernel_rfl) ?_))
    | ((with_reducible (apply wx_id)); first
      | (with_reducible refine wx_then ?_)
      | (with_reducible refine wx_block ?_)
      | (with_reducible refine wx_block_exit ?_)
      | (with_reducible refine wx_block_other (by rfl) ?_)
      | (with_reducible refine wx_block_ret ?_)
      | (with_reducible refine wx_then_exit ?_)
      | (with_reducible refine wx_then_ret ?_)
      | ((with_reducible (apply wx_pf tt_ok)); (first | exact .inl rfl | exact .inr rfl); (first | exact Try.results27 | rfl); (repeat (first | exact Res.nil | (apply Res.tmp; rfl) | (apply Res.cell; rfl; (repeat (first | exact List.Mem.head _ | apply List.Mem.tail)); rfl))))
      | ((with_reducible (apply wx_rd tt_ok)); (first | exact .inl rfl | exact .inr rfl); (first | exact Try.results27 | rfl); (repeat (first | exact Res.nil | (apply Res.tmp; rfl) | (apply Res.cell; rfl; (repeat (first | exact List.Mem.head _ | apply List.Mem.tail)); rfl))); (first | exact sub_refl | exact sub_drop1 | exact sub_drop2 | exact sub_keeps (ps := [0]) rfl | exact sub_keeps (ps := [1]) rfl | exact sub_keeps (ps := [2]) rfl | exact sub_keeps (ps := [3]) rfl | exact sub_keeps (ps := [0, 0]) rfl | exact sub_keeps (ps := [1, 0]) rfl | exact sub_keeps (ps := [1, 1]) rfl | exact sub_keeps (ps := [0, 1]) rfl | exact sub_keeps (ps := [2, 0]) rfl | exact sub_keeps (ps := [0, 2]) rfl | exact sub_keeps (ps := [2, 1]) rfl | exact sub_keeps (ps := [1, 2]) rfl | exact sub_keeps (ps := [2, 2]) rfl); (first | rfl | skip)))
    | ((with_reducible (apply wq_id)); first
      | (apply wq_arith tt_ok; rfl; rfl; (first | ((with_reducible refine fit_div_i64 ?_ ?_) <;> omega) | ((with_reducible refine fit_div_i32 ?_ ?_) <;> omega) | ((with_reducible refine fit_div_u64 ?_ ?_) <;> omega) | ((with_reducible refine fit_i64 ?_); omega) | ((with_reducible refine fit_i32 ?_); omega) | ((with_reducible refine fit_u64 ?_); omega) | ((with_reducible refine fit_u8 ?_); omega) | ((with_reducible refine fit_u32 ?_); omega) | ((with_reducible refine fit_u16 ?_); omega) | rfl); rfl)
      | (apply wq_boolish tt_ok; rfl; rfl; (first | (with_reducible first | exact bb_not_t | exact bb_not_f | exact bb_eq_t _ | exact bb_eq_f _ | exact bb_t_eq _ | exact bb_f_eq _ | exact bb_ne_t _ | exact bb_ne_f _ | exact bb_t_ne _ | exact bb_f_ne _ | exact bb_same _ | exact bb_nsame _ | exact bi_same _ | exact bi_nsame _) | rfl); rfl)
      | (refine wq_pure tt_ok rfl rfl ?_)
      | (apply wq_load tt_ok; rfl; (repeat (first | exact List.Mem.head _ | apply List.Mem.tail)); rfl; rfl)
      | (apply wq_yes; rfl; rfl; (with_reducible rfl))
      | (apply wq_no_t; rfl; rfl; (with_reducible rfl); rfl)
      | (apply wq_no_f; rfl; rfl; (with_reducible rfl); rfl)
      | (apply wq_no_u; rfl; rfl; rfl)
      | (refine wq_guard rfl rfl (fun hc => ?_) (fun hc => ?_) <;> (first | (exfalso; contradiction) | ((try simp only [decide_eq_true_eq, decide_eq_false_iff_not, beq_iff_eq, bne_iff_ne, beq_eq_false_iff_ne, bne_eq_false_iff_eq, ne_eq, Decidable.not_not, Bool.not_eq_true', Bool.not_eq_false', Int.not_lt, Int.not_le] at hc); first | (exfalso; omega) | (exfalso; revert hc; decide) | skip)))
      | (with_reducible refine wq_nil ?_)))
  all_goals (first | rfl | exact bool_t (by omega) | exact bool_f (by omega) | exact bool_d (by omega))

theorem qFirst (b : Nat) (first last : Int) (sv : Value) : Rd Try.prog 20 [.pointer (some ⟨b, 0, none⟩)] [QB b first sv last] (.int .u64 first) := by
  refine sp_of_wc Try.func20 rfl Try.ntmps20 rfl rfl (fun w0 hR => ?_)
  repeat' (first
    | ((with_reducible (apply wl_id)); first
      | (apply wl_arith tt_ok; rfl; rfl; (first | ((with_reducible refine fit_div_i64 ?_ ?_) <;> omega) | ((with_reducible refine fit_div_i32 ?_ ?_) <;> omega) | ((with_reducible refine fit_div_u64 ?_ ?_) <;> omega) | ((with_reducible refine fit_i64 ?_); omega) | ((with_reducible refine fit_i32 ?_); omega) | ((with_reducible refine fit_u64 ?_); omega) | ((with_reducible refine fit_u8 ?_); omega) | ((with_reducible refine fit_u32 ?_); omega) | ((with_reducible refine fit_u16 ?_); omega) | rfl); rfl)
      | (apply wl_boolish tt_ok; rfl; rfl; (first | (with_reducible first | exact bb_not_t | exact bb_not_f | exact bb_eq_t _ | exact bb_eq_f _ | exact bb_t_eq _ | exact bb_f_eq _ | exact bb_ne_t _ | exact bb_ne_f _ | exact bb_t_ne _ | exact bb_f_ne _ | exact bb_same _ | exact bb_nsame _ | exact bi_same _ | exact bi_nsame _) | rfl); rfl)
      | (refine wl_pure tt_ok rfl rfl ?_)
      | (apply wl_load tt_ok; rfl; (repeat (first | exact List.Mem.head _ | apply List.Mem.tail)); rfl; rfl)
      | (apply wl_store tt_ok; rfl; (repeat (first | exact Upd.here | apply Upd.there)); rfl; rfl; rfl; rfl; rfl; rfl)
      | (refine wl_box rfl rfl rfl (fun _ => ?_))
      | (apply wl_build1 tt_ok; rfl; rfl; rfl; rfl; rfl; intro _)
      | (refine wl_alloc tt_ok rfl rfl (fun _ => ?_))
      | (apply wl_yes; rfl; rfl; (with_reducible rfl))
      | (apply wl_no_t; rfl; rfl; (with_reducible rfl); rfl)
      | (apply wl_no_f; rfl; rfl; (with_reducible rfl); rfl)
      | (apply wl_no_u; rfl; rfl; rfl)
      | (refine wl_guard rfl rfl (fun hc => ?_) (fun hc => ?_) <;> (first | (exfalso; contradiction) | ((try simp only [decide_eq_true_eq, decide_eq_false_iff_not, beq_iff_eq, bne_iff_ne, beq_eq_false_iff_ne, bne_eq_false_iff_eq, ne_eq, Decidable.not_not, Bool.not_eq_true', Bool.not_eq_false', Int.not_lt, Int.not_le] at hc); first | (exfalso; omega) | (exfalso; revert hc; decide) | skip)))
      | (with_reducible refine wl_nil ?_))
    | ((with_reducible (apply wc_id)); first
      | (with_reducible refine wc_seq ?_)
      | (with_reducible refine wc_region ?_)
      | (with_reducible refine wc_ret ?_)
      | (refine wc_cond rfl (fun hc => ?_) (fun hc => ?_) <;> (first | (exfalso; contradiction) | ((try simp only [decide_eq_true_eq, decide_eq_false_iff_not, beq_iff_eq, bne_iff_ne, beq_eq_false_iff_ne, bne_eq_false_iff_eq, ne_eq, Decidable.not_not, Bool.not_eq_true', Bool.not_eq_false', Int.not_lt, Int.not_le] at hc); first | (exfalso; omega) | (exfalso; revert hc; decide) | skip)))
      | (with_reducible refine wc_block ?_)
      | (with_reducible refine wc_skip ?_)
      | (with_reducible refine wc_exit ?_)
      | (with_reducible refine wc_quiet (by kernel_rfl) (by kernel_rfl) ?_))
    | ((with_reducible (apply wx_id)); first
      | (with_reducible refine wx_then ?_)
      | (with_reducible refine wx_block ?_)
      | (with_reducible refine wx_block_exit ?_)
      | (with_reducible refine wx_block_other (by rfl) ?_)
      | (with_reducible refine wx_block_ret ?_)
      | (with_reducible refine wx_then_exit ?_)
      | (with_reducible refine wx_then_ret ?_)
      | ((with_reducible (apply wx_pf tt_ok)); (first | exact .inl rfl | exact .inr rfl); (first | exact Try.results20 | rfl); (repeat (first | exact Res.nil | (apply Res.tmp; rfl) | (apply Res.cell; rfl; (repeat (first | exact List.Mem.head _ | apply List.Mem.tail)); rfl))))
      | ((with_reducible (apply wx_rd tt_ok)); (first | exact .inl rfl | exact .inr rfl); (first | exact Try.results20 | rfl); (repeat (first | exact Res.nil | (apply Res.tmp; rfl) | (apply Res.cell; rfl; (repeat (first | exact List.Mem.head _ | apply List.Mem.tail)); rfl))); (first | exact sub_refl | exact sub_drop1 | exact sub_drop2 | exact sub_keeps (ps := [0]) rfl | exact sub_keeps (ps := [1]) rfl | exact sub_keeps (ps := [2]) rfl | exact sub_keeps (ps := [3]) rfl | exact sub_keeps (ps := [0, 0]) rfl | exact sub_keeps (ps := [1, 0]) rfl | exact sub_keeps (ps := [1, 1]) rfl | exact sub_keeps (ps := [0, 1]) rfl | exact sub_keeps (ps := [2, 0]) rfl | exact sub_keeps (ps := [0, 2]) rfl | exact sub_keeps (ps := [2, 1]) rfl | exact sub_keeps (ps := [1, 2]) rfl | exact sub_keeps (ps := [2, 2]) rfl); (first | rfl | skip)))
    | ((with_reducible (apply wq_id)); first
      | (apply wq_arith tt_ok; rfl; rfl; (first | ((with_reducible refine fit_div_i64 ?_ ?_) <;> omega) | ((with_reducible refine fit_div_i32 ?_ ?_) <;> omega) | ((with_reducible refine fit_div_u64 ?_ ?_) <;> omega) | ((with_reducible refine fit_i64 ?_); omega) | ((with_reducible refine fit_i32 ?_); omega) | ((with_reducible refine fit_u64 ?_); omega) | ((with_reducible refine fit_u8 ?_); omega) | ((with_reducible refine fit_u32 ?_); omega) | ((with_reducible refine fit_u16 ?_); omega) | rfl); rfl)
      | (apply wq_boolish tt_ok; rfl; rfl; (first | (with_reducible first | exact bb_not_t | exact bb_not_f | exact bb_eq_t _ | exact bb_eq_f _ | exact bb_t_eq _ | exact bb_f_eq _ | exact bb_ne_t _ | exact bb_ne_f _ | exact bb_t_ne _ | exact bb_f_ne _ | exact bb_same _ | exact bb_nsame _ | exact bi_same _ | exact bi_nsame _) | rfl); rfl)
      | (refine wq_pure tt_ok rfl rfl ?_)
      | (apply wq_load tt_ok; rfl; (repeat (first | exact List.Mem.head _ | apply List.Mem.tail)); rfl; rfl)
      | (apply wq_yes; rfl; rfl; (with_reducible rfl))
      | (apply wq_no_t; rfl; rfl; (with_reducible rfl); rfl)
      | (apply wq_no_f; rfl; rfl; (with_reducible rfl); rfl)
      | (apply wq_no_u; rfl; rfl; rfl)
      | (refine wq_guard rfl rfl (fun hc => ?_) (fun hc => ?_) <;> (first | (exfalso; contradiction) | ((try simp only [decide_eq_true_eq, decide_eq_false_iff_not, beq_iff_eq, bne_iff_ne, beq_eq_false_iff_ne, bne_eq_false_iff_eq, ne_eq, Decidable.not_not, Bool.not_eq_true', Bool.not_eq_false', Int.not_lt, Int.not_le] at hc); first | (exfalso; omega) | (exfalso; revert hc; decide) | skip)))
      | (with_reducible refine wq_nil ?_)))

theorem qKnown (b : Nat) (first last : Int) (a : Option Addr) (n cap : Nat) (h1 : U64 first) (h2 : first + n ≤ 18446744073709551615) :
    Rd Try.prog 9 [.pointer (some ⟨b, 0, none⟩)] [QB b first (.slice a n cap) last] (.int .u64 (first + n)) := by
  refine sp_of_wc Try.func9 rfl Try.ntmps9 rfl rfl (fun w0 hR => ?_)
  repeat' (first
    | ((with_reducible (apply wl_id)); first
      | (apply wl_arith tt_ok; rfl; rfl; (first | ((with_reducible refine fit_div_i64 ?_ ?_) <;> omega) | ((with_reducible refine fit_div_i32 ?_ ?_) <;> omega) | ((with_reducible refine fit_div_u64 ?_ ?_) <;> omega) | ((with_reducible refine fit_i64 ?_); omega) | ((with_reducible refine fit_i32 ?_); omega) | ((with_reducible refine fit_u64 ?_); omega) | ((with_reducible refine fit_u8 ?_); omega) | ((with_reducible refine fit_u32 ?_); omega) | ((with_reducible refine fit_u16 ?_); omega) | rfl); rfl)
      | (apply wl_boolish tt_ok; rfl; rfl; (first | (with_reducible first | exact bb_not_t | exact bb_not_f | exact bb_eq_t _ | exact bb_eq_f _ | exact bb_t_eq _ | exact bb_f_eq _ | exact bb_ne_t _ | exact bb_ne_f _ | exact bb_t_ne _ | exact bb_f_ne _ | exact bb_same _ | exact bb_nsame _ | exact bi_same _ | exact bi_nsame _) | rfl); rfl)
      | (refine wl_pure tt_ok rfl rfl ?_)
      | (apply wl_load tt_ok; rfl; (repeat (first | exact List.Mem.head _ | apply List.Mem.tail)); rfl; rfl)
      | (apply wl_store tt_ok; rfl; (repeat (first | exact Upd.here | apply Upd.there)); rfl; rfl; rfl; rfl; rfl; rfl)
      | (refine wl_box rfl rfl rfl (fun _ => ?_))
      | (apply wl_build1 tt_ok; rfl; rfl; rfl; rfl; rfl; intro _)
      | (refine wl_alloc tt_ok rfl rfl (fun _ => ?_))
      | (apply wl_yes; rfl; rfl; (with_reducible rfl))
      | (apply wl_no_t; rfl; rfl; (with_reducible rfl); rfl)
      | (apply wl_no_f; rfl; rfl; (with_reducible rfl); rfl)
      | (apply wl_no_u; rfl; rfl; rfl)
      | (refine wl_guard rfl rfl (fun hc => ?_) (fun hc => ?_) <;> (first | (exfalso; contradiction) | ((try simp only [decide_eq_true_eq, decide_eq_false_iff_not, beq_iff_eq, bne_iff_ne, beq_eq_false_iff_ne, bne_eq_false_iff_eq, ne_eq, Decidable.not_not, Bool.not_eq_true', Bool.not_eq_false', Int.not_lt, Int.not_le] at hc); first | (exfalso; omega) | (exfalso; revert hc; decide) | skip)))
      | (with_reducible refine wl_nil ?_))
    | ((with_reducible (apply wc_id)); first
      | (with_reducible refine wc_seq ?_)
      | (with_reducible refine wc_region ?_)
      | (with_reducible refine wc_ret ?_)
      | (refine wc_cond rfl (fun hc => ?_) (fun hc => ?_) <;> (first | (exfalso; contradiction) | ((try simp only [decide_eq_true_eq, decide_eq_false_iff_not, beq_iff_eq, bne_iff_ne, beq_eq_false_iff_ne, bne_eq_false_iff_eq, ne_eq, Decidable.not_not, Bool.not_eq_true', Bool.not_eq_false', Int.not_lt, Int.not_le] at hc); first | (exfalso; omega) | (exfalso; revert hc; decide) | skip)))
      | (with_reducible refine wc_block ?_)
      | (with_reducible refine wc_skip ?_)
      | (with_reducible refine wc_exit ?_)
      | (with_reducible refine wc_quiet (by kernel_rfl) (by kernel_rfl) ?_))
    | ((with_reducible (apply wx_id)); first
      | (with_reducible refine wx_then ?_)
      | (with_reducible refine wx_block ?_)
      | (with_reducible refine wx_block_exit ?_)
      | (with_reducible refine wx_block_other (by rfl) ?_)
      | (with_reducible refine wx_block_ret ?_)
      | (with_reducible refine wx_then_exit ?_)
      | (with_reducible refine wx_then_ret ?_)
      | ((with_reducible (apply wx_pf tt_ok)); (first | exact .inl rfl | exact .inr rfl); (first | exact Try.results9 | rfl); (repeat (first | exact Res.nil | (apply Res.tmp; rfl) | (apply Res.cell; rfl; (repeat (first | exact List.Mem.head _ | apply List.Mem.tail)); rfl))))
      | ((with_reducible (apply wx_rd tt_ok)); (first | exact .inl rfl | exact .inr rfl); (first | exact Try.results9 | rfl); (repeat (first | exact Res.nil | (apply Res.tmp; rfl) | (apply Res.cell; rfl; (repeat (first | exact List.Mem.head _ | apply List.Mem.tail)); rfl))); (first | exact sub_refl | exact sub_drop1 | exact sub_drop2 | exact sub_keeps (ps := [0]) rfl | exact sub_keeps (ps := [1]) rfl | exact sub_keeps (ps := [2]) rfl | exact sub_keeps (ps := [3]) rfl | exact sub_keeps (ps := [0, 0]) rfl | exact sub_keeps (ps := [1, 0]) rfl | exact sub_keeps (ps := [1, 1]) rfl | exact sub_keeps (ps := [0, 1]) rfl | exact sub_keeps (ps := [2, 0]) rfl | exact sub_keeps (ps := [0, 2]) rfl | exact sub_keeps (ps := [2, 1]) rfl | exact sub_keeps (ps := [1, 2]) rfl | exact sub_keeps (ps := [2, 2]) rfl); (first | rfl | skip)))
    | ((with_reducible (apply wq_id)); first
      | (apply wq_arith tt_ok; rfl; rfl; (first | ((with_reducible refine fit_div_i64 ?_ ?_) <;> omega) | ((with_reducible refine fit_div_i32 ?_ ?_) <;> omega) | ((with_reducible refine fit_div_u64 ?_ ?_) <;> omega) | ((with_reducible refine fit_i64 ?_); omega) | ((with_reducible refine fit_i32 ?_); omega) | ((with_reducible refine fit_u64 ?_); omega) | ((with_reducible refine fit_u8 ?_); omega) | ((with_reducible refine fit_u32 ?_); omega) | ((with_reducible refine fit_u16 ?_); omega) | rfl); rfl)
      | (apply wq_boolish tt_ok; rfl; rfl; (first | (with_reducible first | exact bb_not_t | exact bb_not_f | exact bb_eq_t _ | exact bb_eq_f _ | exact bb_t_eq _ | exact bb_f_eq _ | exact bb_ne_t _ | exact bb_ne_f _ | exact bb_t_ne _ | exact bb_f_ne _ | exact bb_same _ | exact bb_nsame _ | exact bi_same _ | exact bi_nsame _) | rfl); rfl)
      | (refine wq_pure tt_ok rfl rfl ?_)
      | (apply wq_load tt_ok; rfl; (repeat (first | exact List.Mem.head _ | apply List.Mem.tail)); rfl; rfl)
      | (apply wq_yes; rfl; rfl; (with_reducible rfl))
      | (apply wq_no_t; rfl; rfl; (with_reducible rfl); rfl)
      | (apply wq_no_f; rfl; rfl; (with_reducible rfl); rfl)
      | (apply wq_no_u; rfl; rfl; rfl)
      | (refine wq_guard rfl rfl (fun hc => ?_) (fun hc => ?_) <;> (first | (exfalso; contradiction) | ((try simp only [decide_eq_true_eq, decide_eq_false_iff_not, beq_iff_eq, bne_iff_ne, beq_eq_false_iff_ne, bne_eq_false_iff_eq, ne_eq, Decidable.not_not, Bool.not_eq_true', Bool.not_eq_false', Int.not_lt, Int.not_le] at hc); first | (exfalso; omega) | (exfalso; revert hc; decide) | skip)))
      | (with_reducible refine wq_nil ?_)))

theorem qFromOut (b : Nat) (f first last : Int) (a : Option Addr) (n cap : Nat) (h1 : U64 first) (h2 : first + n ≤ 18446744073709551615) (hf : U64 f) (ho : f < first ∨ first + n ≤ f) :
    Rd Try.prog 28 [.pointer (some ⟨b, 0, none⟩), .int .u64 f] [QB b first (.slice a n cap) last] (.slice none 0 0) := by
  refine sp_of_wc Try.func28 rfl Try.ntmps28 rfl rfl (fun w0 hR => ?_)
  repeat' (first
    | ((with_reducible (apply wl_id)); first
      | (apply wl_arith tt_ok; rfl; rfl; (first | ((with_reducible refine fit_div_i64 ?_ ?_) <;> omega) | ((with_reducible refine fit_div_i32 ?_ ?_) <;> omega) | ((with_reducible refine fit_div_u64 ?_ ?_) <;> omega) | ((with_reducible refine fit_i64 ?_); omega) | ((with_reducible refine fit_i32 ?_); omega) | ((with_reducible refine fit_u64 ?_); omega) | ((with_reducible refine fit_u8 ?_); omega) | ((with_reducible refine fit_u32 ?_); omega) | ((with_reducible refine fit_u16 ?_); omega) | rfl); rfl)
      | (apply wl_boolish tt_ok; rfl; rfl; (first | (with_reducible first | exact bb_not_t | exact bb_not_f | exact bb_eq_t _ | exact bb_eq_f _ | exact bb_t_eq _ | exact bb_f_eq _ | exact bb_ne_t _ | exact bb_ne_f _ | exact bb_t_ne _ | exact bb_f_ne _ | exact bb_same _ | exact bb_nsame _ | exact bi_same _ | exact bi_nsame _) | rfl); rfl)
      | (refine wl_pure tt_ok rfl rfl ?_)
      | (apply wl_load tt_ok; rfl; (repeat (first | exact List.Mem.head _ | apply List.Mem.tail)); rfl; rfl)
      | (first | (apply wl_rd Try.call9; rfl; rfl; rfl; exact sub_keeps (ps := [0]) rfl; exact qKnown _ _ _ _ _ _ (by omega) (by omega); rfl) | (apply wl_rd Try.call9; rfl; rfl; rfl; exact sub_keeps (ps := [1]) rfl; exact qKnown _ _ _ _ _ _ (by omega) (by omega); rfl) | (apply wl_rd Try.call9; rfl; rfl; rfl; exact sub_keeps (ps := [2]) rfl; exact qKnown _ _ _ _ _ _ (by omega) (by omega); rfl))
      | (apply wl_store tt_ok; rfl; (repeat (first | exact Upd.here | apply Upd.there)); rfl; rfl; rfl; rfl; rfl; rfl)
      | (refine wl_box rfl rfl rfl (fun _ => ?_))
      | (apply wl_build1 tt_ok; rfl; rfl; rfl; rfl; rfl; intro _)
      | (refine wl_alloc tt_ok rfl rfl (fun _ => ?_))
      | (apply wl_yes; rfl; rfl; (with_reducible rfl))
      | (apply wl_no_t; rfl; rfl; (with_reducible rfl); rfl)
      | (apply wl_no_f; rfl; rfl; (with_reducible rfl); rfl)
      | (apply wl_no_u; rfl; rfl; rfl)
      | (refine wl_guard rfl rfl (fun hc => ?_) (fun hc => ?_) <;> (first | (exfalso; contradiction) | ((try simp only [decide_eq_true_eq, decide_eq_false_iff_not, beq_iff_eq, bne_iff_ne, beq_eq_false_iff_ne, bne_eq_false_iff_eq, ne_eq, Decidable.not_not, Bool.not_eq_true', Bool.not_eq_false', Int.not_lt, Int.not_le] at hc); first | (exfalso; omega) | (exfalso; revert hc; decide) | skip)))
      | (with_reducible refine wl_nil ?_))
    | ((with_reducible (apply wc_id)); first
      | (with_reducible refine wc_seq ?_)
      | (with_reducible refine wc_region ?_)
      | (with_reducible refine wc_ret ?_)
      | (refine wc_cond rfl (fun hc => ?_) (fun hc => ?_) <;> (first | (exfalso; contradiction) | ((try simp only [decide_eq_true_eq, decide_eq_false_iff_not, beq_iff_eq, bne_iff_ne, beq_eq_false_iff_ne, bne_eq_false_iff_eq, ne_eq, Decidable.not_not, Bool.not_eq_true', Bool.not_eq_false', Int.not_lt, Int.not_le] at hc); first | (exfalso; omega) | (exfalso; revert hc; decide) | skip)))
      | (with_reducible refine wc_block ?_)
      | (with_reducible refine wc_skip ?_)
      | (with_reducible refine wc_exit ?_)
      | (with_reducible refine wc_quiet (by kernel_rfl) (by kernel_rfl) ?_))
    | ((with_reducible (apply wx_id)); first
      | (with_reducible refine wx_then ?_)
      | (with_reducible refine wx_block ?_)
      | (with_reducible refine wx_block_exit ?_)
      | (with_reducible refine wx_block_other (by rfl) ?_)
      | (with_reducible refine wx_block_ret ?_)
      | (with_reducible refine wx_then_exit ?_)
      | (with_reducible refine wx_then_ret ?_)
      | ((with_reducible (apply wx_pf tt_ok)); (first | exact .inl rfl | exact .inr rfl); (first | exact Try.results28 | rfl); (repeat (first | exact Res.nil | (apply Res.tmp; rfl) | (apply Res.cell; rfl; (repeat (first | exact List.Mem.head _ | apply List.Mem.tail)); rfl))))
      | ((with_reducible (apply wx_rd tt_ok)); (first | exact .inl rfl | exact .inr rfl); (first | exact Try.results28 | rfl); (repeat (first | exact Res.nil | (apply Res.tmp; rfl) | (apply Res.cell; rfl; (repeat (first | exact List.Mem.head _ | apply List.Mem.tail)); rfl))); (first | exact sub_refl | exact sub_drop1 | exact sub_drop2 | exact sub_keeps (ps := [0]) rfl | exact sub_keeps (ps := [1]) rfl | exact sub_keeps (ps := [2]) rfl | exact sub_keeps (ps := [3]) rfl | exact sub_keeps (ps := [0, 0]) rfl | exact sub_keeps (ps := [1, 0]) rfl | exact sub_keeps (ps := [1, 1]) rfl | exact sub_keeps (ps := [0, 1]) rfl | exact sub_keeps (ps := [2, 0]) rfl | exact sub_keeps (ps := [0, 2]) rfl | exact sub_keeps (ps := [2, 1]) rfl | exact sub_keeps (ps := [1, 2]) rfl | exact sub_keeps (ps := [2, 2]) rfl); (first | rfl | skip)))
    | ((with_reducible (apply wq_id)); first
      | (apply wq_arith tt_ok; rfl; rfl; (first | ((with_reducible refine fit_div_i64 ?_ ?_) <;> omega) | ((with_reducible refine fit_div_i32 ?_ ?_) <;> omega) | ((with_reducible refine fit_div_u64 ?_ ?_) <;> omega) | ((with_reducible refine fit_i64 ?_); omega) | ((with_reducible refine fit_i32 ?_); omega) | ((with_reducible refine fit_u64 ?_); omega) | ((with_reducible refine fit_u8 ?_); omega) | ((with_reducible refine fit_u32 ?_); omega) | ((with_reducible refine fit_u16 ?_); omega) | rfl); rfl)
      | (apply wq_boolish tt_ok; rfl; rfl; (first | (with_reducible first | exact bb_not_t | exact bb_not_f | exact bb_eq_t _ | exact bb_eq_f _ | exact bb_t_eq _ | exact bb_f_eq _ | exact bb_ne_t _ | exact bb_ne_f _ | exact bb_t_ne _ | exact bb_f_ne _ | exact bb_same _ | exact bb_nsame _ | exact bi_same _ | exact bi_nsame _) | rfl); rfl)
      | (refine wq_pure tt_ok rfl rfl ?_)
      | (apply wq_load tt_ok; rfl; (repeat (first | exact List.Mem.head _ | apply List.Mem.tail)); rfl; rfl)
      | (first | (apply wl_rd Try.call9; rfl; rfl; rfl; exact sub_keeps (ps := [0]) rfl; exact qKnown _ _ _ _ _ _ (by omega) (by omega); rfl) | (apply wl_rd Try.call9; rfl; rfl; rfl; exact sub_keeps (ps := [1]) rfl; exact qKnown _ _ _ _ _ _ (by omega) (by omega); rfl) | (apply wl_rd Try.call9; rfl; rfl; rfl; exact sub_keeps (ps := [2]) rfl; exact qKnown _ _ _ _ _ _ (by omega) (by omega); rfl))
      | (apply wq_yes; rfl; rfl; (with_reducible rfl))
      | (apply wq_no_t; rfl; rfl; (with_reducible rfl); rfl)
      | (apply wq_no_f; rfl; rfl; (with_reducible rfl); rfl)
      | (apply wq_no_u; rfl; rfl; rfl)
      | (refine wq_guard rfl rfl (fun hc => ?_) (fun hc => ?_) <;> (first | (exfalso; contradiction) | ((try simp only [decide_eq_true_eq, decide_eq_false_iff_not, beq_iff_eq, bne_iff_ne, beq_eq_false_iff_ne, bne_eq_false_iff_eq, ne_eq, Decidable.not_not, Bool.not_eq_true', Bool.not_eq_false', Int.not_lt, Int.not_le] at hc); first | (exfalso; omega) | (exfalso; revert hc; decide) | skip)))
      | (with_reducible refine wq_nil ?_)))

theorem qFromIn (b g : Nat) (f first last : Int) (n cap : Nat) (h1 : U64 first) (h2 : first + n ≤ 18446744073709551615) (hc : n ≤ cap) (hf : U64 f) (ho : first ≤ f ∧ f < first + n) :
    Rd Try.prog 28 [.pointer (some ⟨b, 0, none⟩), .int .u64 f] [QB b first (.slice (some ⟨g, 0, none⟩) n cap) last] (.slice (some ⟨g, (f - first).toNat, none⟩) (n - (f - first).toNat) (n - (f - first).toNat)) := by
  have e1 : ¬ (n = (f - first).toNat) := by omega
  refine sp_of_wc Try.func28 rfl Try.ntmps28 rfl rfl (fun w0 hR => ?_)
  repeat' (first
    | ((with_reducible (apply wl_id)); first
      | (apply wl_arith tt_ok; rfl; rfl; (first | ((with_reducible refine fit_div_i64 ?_ ?_) <;> omega) | ((with_reducible refine fit_div_i32 ?_ ?_) <;> omega) | ((with_reducible refine fit_div_u64 ?_ ?_) <;> omega) | ((with_reducible refine fit_i64 ?_); omega) | ((with_reducible refine fit_i32 ?_); omega) | ((with_reducible refine fit_u64 ?_); omega) | ((with_reducible refine fit_u8 ?_); omega) | ((with_reducible refine fit_u32 ?_); omega) | ((with_reducible refine fit_u16 ?_); omega) | rfl); rfl)
      | (apply wl_boolish tt_ok; rfl; rfl; (first | (with_reducible first | exact bb_not_t | exact bb_not_f | exact bb_eq_t _ | exact bb_eq_f _ | exact bb_t_eq _ | exact bb_f_eq _ | exact bb_ne_t _ | exact bb_ne_f _ | exact bb_t_ne _ | exact bb_f_ne _ | exact bb_same _ | exact bb_nsame _ | exact bi_same _ | exact bi_nsame _) | rfl); rfl)
      | (refine wl_pure tt_ok rfl rfl ?_)
      | (apply wl_load tt_ok; rfl; (repeat (first | exact List.Mem.head _ | apply List.Mem.tail)); rfl; rfl)
      | (first | (apply wl_rd Try.call9; rfl; rfl; rfl; exact sub_keeps (ps := [0]) rfl; exact qKnown _ _ _ _ _ _ (by omega) (by omega); rfl) | (apply wl_rd Try.call9; rfl; rfl; rfl; exact sub_keeps (ps := [1]) rfl; exact qKnown _ _ _ _ _ _ (by omega) (by omega); rfl) | (apply wl_rd Try.call9; rfl; rfl; rfl; exact sub_keeps (ps := [2]) rfl; exact qKnown _ _ _ _ _ _ (by omega) (by omega); rfl))
      | (apply wl_val (val_slice (l := (f - first).toNat) (h := n) (m := n) tt_ok rfl rfl rfl (bnd_some rfl (by omega)) (bnd_some rfl rfl) (bnd_some rfl rfl) (by intro h; cases h) (by omega) (by omega) (by omega)); rfl)
      | (apply wl_store tt_ok; rfl; (repeat (first | exact Upd.here | apply Upd.there)); rfl; rfl; rfl; rfl; rfl; rfl)
      | (refine wl_box rfl rfl rfl (fun _ => ?_))
      | (apply wl_build1 tt_ok; rfl; rfl; rfl; rfl; rfl; intro _)
      | (refine wl_alloc tt_ok rfl rfl (fun _ => ?_))
      | (apply wl_yes; rfl; rfl; (with_reducible rfl))
      | (apply wl_no_t; rfl; rfl; (with_reducible rfl); rfl)
      | (apply wl_no_f; rfl; rfl; (with_reducible rfl); rfl)
      | (apply wl_no_u; rfl; rfl; rfl)
      | (refine wl_guard rfl rfl (fun hc => ?_) (fun hc => ?_) <;> (first | (exfalso; contradiction) | ((try simp only [decide_eq_true_eq, decide_eq_false_iff_not, beq_iff_eq, bne_iff_ne, beq_eq_false_iff_ne, bne_eq_false_iff_eq, ne_eq, Decidable.not_not, Bool.not_eq_true', Bool.not_eq_false', Int.not_lt, Int.not_le] at hc); first | (exfalso; omega) | (exfalso; revert hc; decide) | skip)))
      | (with_reducible refine wl_nil ?_))
    | ((with_reducible (apply wc_id)); first
      | (with_reducible refine wc_seq ?_)
      | (with_reducible refine wc_region ?_)
      | (with_reducible refine wc_ret ?_)
      | (refine wc_cond rfl (fun hc => ?_) (fun hc => ?_) <;> (first | (exfalso; contradiction) | ((try simp only [decide_eq_true_eq, decide_eq_false_iff_not, beq_iff_eq, bne_iff_ne, beq_eq_false_iff_ne, bne_eq_false_iff_eq, ne_eq, Decidable.not_not, Bool.not_eq_true', Bool.not_eq_false', Int.not_lt, Int.not_le] at hc); first | (exfalso; omega) | (exfalso; revert hc; decide) | skip)))
      | (with_reducible refine wc_block ?_)
      | (with_reducible refine wc_skip ?_)
      | (with_reducible refine wc_exit ?_)
      | (with_reducible refine wc_quiet (by kernel_rfl) (by kernel_rfl) ?_))
    | ((with_reducible (apply wx_id)); first
      | (with_reducible refine wx_then ?_)
      | (with_reducible refine wx_block ?_)
      | (with_reducible refine wx_block_exit ?_)
      | (with_reducible refine wx_block_other (by rfl) ?_)
      | (with_reducible refine wx_block_ret ?_)
      | (with_reducible refine wx_then_exit ?_)
      | (with_reducible refine wx_then_ret ?_)
      | ((with_reducible (apply wx_pf tt_ok)); (first | exact .inl rfl | exact .inr rfl); (first | exact Try.results28 | rfl); (repeat (first | exact Res.nil | (apply Res.tmp; rfl) | (apply Res.cell; rfl; (repeat (first | exact List.Mem.head _ | apply List.Mem.tail)); rfl))))
      | ((with_reducible (apply wx_rd tt_ok)); (first | exact .inl rfl | exact .inr rfl); (first | exact Try.results28 | rfl); (repeat (first | exact Res.nil | (apply Res.tmp; rfl) | (apply Res.cell; rfl; (repeat (first | exact List.Mem.head _ | apply List.Mem.tail)); rfl))); (first | exact sub_refl | exact sub_drop1 | exact sub_drop2 | exact sub_keeps (ps := [0]) rfl | exact sub_keeps (ps := [1]) rfl | exact sub_keeps (ps := [2]) rfl | exact sub_keeps (ps := [3]) rfl | exact sub_keeps (ps := [0, 0]) rfl | exact sub_keeps (ps := [1, 0]) rfl | exact sub_keeps (ps := [1, 1]) rfl | exact sub_keeps (ps := [0, 1]) rfl | exact sub_keeps (ps := [2, 0]) rfl | exact sub_keeps (ps := [0, 2]) rfl | exact sub_keeps (ps := [2, 1]) rfl | exact sub_keeps (ps := [1, 2]) rfl | exact sub_keeps (ps := [2, 2]) rfl); (first | rfl | skip)))
    | ((with_reducible (apply wq_id)); first
      | (apply wq_arith tt_ok; rfl; rfl; (first | ((with_reducible refine fit_div_i64 ?_ ?_) <;> omega) | ((with_reducible refine fit_div_i32 ?_ ?_) <;> omega) | ((with_reducible refine fit_div_u64 ?_ ?_) <;> omega) | ((with_reducible refine fit_i64 ?_); omega) | ((with_reducible refine fit_i32 ?_); omega) | ((with_reducible refine fit_u64 ?_); omega) | ((with_reducible refine fit_u8 ?_); omega) | ((with_reducible refine fit_u32 ?_); omega) | ((with_reducible refine fit_u16 ?_); omega) | rfl); rfl)
      | (apply wq_boolish tt_ok; rfl; rfl; (first | (with_reducible first | exact bb_not_t | exact bb_not_f | exact bb_eq_t _ | exact bb_eq_f _ | exact bb_t_eq _ | exact bb_f_eq _ | exact bb_ne_t _ | exact bb_ne_f _ | exact bb_t_ne _ | exact bb_f_ne _ | exact bb_same _ | exact bb_nsame _ | exact bi_same _ | exact bi_nsame _) | rfl); rfl)
      | (refine wq_pure tt_ok rfl rfl ?_)
      | (apply wq_load tt_ok; rfl; (repeat (first | exact List.Mem.head _ | apply List.Mem.tail)); rfl; rfl)
      | (first | (apply wl_rd Try.call9; rfl; rfl; rfl; exact sub_keeps (ps := [0]) rfl; exact qKnown _ _ _ _ _ _ (by omega) (by omega); rfl) | (apply wl_rd Try.call9; rfl; rfl; rfl; exact sub_keeps (ps := [1]) rfl; exact qKnown _ _ _ _ _ _ (by omega) (by omega); rfl) | (apply wl_rd Try.call9; rfl; rfl; rfl; exact sub_keeps (ps := [2]) rfl; exact qKnown _ _ _ _ _ _ (by omega) (by omega); rfl))
      | (apply wq_val (val_slice (l := (f - first).toNat) (h := n) (m := n) tt_ok rfl rfl rfl (bnd_some rfl (by omega)) (bnd_some rfl rfl) (bnd_some rfl rfl) (by intro h; cases h) (by omega) (by omega) (by omega)); rfl)
      | (apply wq_yes; rfl; rfl; (with_reducible rfl))
      | (apply wq_no_t; rfl; rfl; (with_reducible rfl); rfl)
      | (apply wq_no_f; rfl; rfl; (with_reducible rfl); rfl)
      | (apply wq_no_u; rfl; rfl; rfl)
      | (refine wq_guard rfl rfl (fun hc => ?_) (fun hc => ?_) <;> (first | (exfalso; contradiction) | ((try simp only [decide_eq_true_eq, decide_eq_false_iff_not, beq_iff_eq, bne_iff_ne, beq_eq_false_iff_ne, bne_eq_false_iff_eq, ne_eq, Decidable.not_not, Bool.not_eq_true', Bool.not_eq_false', Int.not_lt, Int.not_le] at hc); first | (exfalso; omega) | (exfalso; revert hc; decide) | skip)))
      | (with_reducible refine wq_nil ?_)))
  simp [resV, e1]

theorem qAtOut (b : Nat) (f first last : Int) (a : Option Addr) (n cap : Nat) (h1 : U64 first) (h2 : first + n ≤ 18446744073709551615) (hf : U64 f) (ho : f < first ∨ first + n ≤ f) :
    Rd Try.prog 18 [.pointer (some ⟨b, 0, none⟩), .int .u64 f] [QB b first (.slice a n cap) last] (.tuple #[.int .u8 0, .bool false]) := by
  refine sp_of_wc Try.func18 rfl Try.ntmps18 rfl rfl (fun w0 hR => ?_)
  repeat' (first
    | ((with_reducible (apply wl_id)); first
      | (apply wl_arith tt_ok; rfl; rfl; (first | ((with_reducible refine fit_div_i64 ?_ ?_) <;> omega) | ((with_reducible refine fit_div_i32 ?_ ?_) <;> omega) | ((with_reducible refine fit_div_u64 ?_ ?_) <;> omega) | ((with_reducible refine fit_i64 ?_); omega) | ((with_reducible refine fit_i32 ?_); omega) | ((with_reducible refine fit_u64 ?_); omega) | ((with_reducible refine fit_u8 ?_); omega) | ((with_reducible refine fit_u32 ?_); omega) | ((with_reducible refine fit_u16 ?_); omega) | rfl); rfl)
      | (apply wl_boolish tt_ok; rfl; rfl; (first | (with_reducible first | exact bb_not_t | exact bb_not_f | exact bb_eq_t _ | exact bb_eq_f _ | exact bb_t_eq _ | exact bb_f_eq _ | exact bb_ne_t _ | exact bb_ne_f _ | exact bb_t_ne _ | exact bb_f_ne _ | exact bb_same _ | exact bb_nsame _ | exact bi_same _ | exact bi_nsame _) | rfl); rfl)
      | (refine wl_pure tt_ok rfl rfl ?_)
      | (apply wl_load tt_ok; rfl; (repeat (first | exact List.Mem.head _ | apply List.Mem.tail)); rfl; rfl)
      | (first | (apply wl_rd Try.call28; rfl; rfl; rfl; exact sub_keeps (ps := [0]) rfl; exact qFromOut _ _ _ _ _ _ _ (by omega) (by omega) (by omega) (by omega); rfl) | (apply wl_rd Try.call28; rfl; rfl; rfl; exact sub_keeps (ps := [1]) rfl; exact qFromOut _ _ _ _ _ _ _ (by omega) (by omega) (by omega) (by omega); rfl) | (apply wl_rd Try.call28; rfl; rfl; rfl; exact sub_keeps (ps := [2]) rfl; exact qFromOut _ _ _ _ _ _ _ (by omega) (by omega) (by omega) (by omega); rfl))
      | (apply wl_store tt_ok; rfl; (repeat (first | exact Upd.here | apply Upd.there)); rfl; rfl; rfl; rfl; rfl; rfl)
      | (refine wl_box rfl rfl rfl (fun _ => ?_))
      | (apply wl_build1 tt_ok; rfl; rfl; rfl; rfl; rfl; intro _)
      | (refine wl_alloc tt_ok rfl rfl (fun _ => ?_))
      | (apply wl_yes; rfl; rfl; (with_reducible rfl))
      | (apply wl_no_t; rfl; rfl; (with_reducible rfl); rfl)
      | (apply wl_no_f; rfl; rfl; (with_reducible rfl); rfl)
      | (apply wl_no_u; rfl; rfl; rfl)
      | (refine wl_guard rfl rfl (fun hc => ?_) (fun hc => ?_) <;> (first | (exfalso; contradiction) | ((try simp only [decide_eq_true_eq, decide_eq_false_iff_not, beq_iff_eq, bne_iff_ne, beq_eq_false_iff_ne, bne_eq_false_iff_eq, ne_eq, Decidable.not_not, Bool.not_eq_true', Bool.not_eq_false', Int.not_lt, Int.not_le] at hc); first | (exfalso; omega) | (exfalso; revert hc; decide) | skip)))
      | (with_reducible refine wl_nil ?_))
    | ((with_reducible (apply wc_id)); first
      | (with_reducible refine wc_seq ?_)
      | (with_reducible refine wc_region ?_)
      | (with_reducible refine wc_ret ?_)
      | (refine wc_cond rfl (fun hc => ?_) (fun hc => ?_) <;> (first | (exfalso; contradiction) | ((try simp only [decide_eq_true_eq, decide_eq_false_iff_not, beq_iff_eq, bne_iff_ne, beq_eq_false_iff_ne, bne_eq_false_iff_eq, ne_eq, Decidable.not_not, Bool.not_eq_true', Bool.not_eq_false', Int.not_lt, Int.not_le] at hc); first | (exfalso; omega) | (exfalso; revert hc; decide) | skip)))
      | (with_reducible refine wc_block ?_)
      | (with_reducible refine wc_skip ?_)
      | (with_reducible refine wc_exit ?_)
      | (with_reducible refine wc_quiet (by kernel_rfl) (by kernel_rfl) ?_))
    | ((with_reducible (apply wx_id)); first
      | (with_reducible refine wx_then ?_)
      | (with_reducible refine wx_block ?_)
      | (with_reducible refine wx_block_exit ?_)
      | (with_reducible refine wx_block_other (by rfl) ?_)
      | (with_reducible refine wx_block_ret ?_)
      | (with_reducible refine wx_then_exit ?_)
      | (with_reducible refine wx_then_ret ?_)
      | ((with_reducible (apply wx_pf tt_ok)); (first | exact .inl rfl | exact .inr rfl); (first | exact Try.results18 | rfl); (repeat (first | exact Res.nil | (apply Res.tmp; rfl) | (apply Res.cell; rfl; (repeat (first | exact List.Mem.head _ | apply List.Mem.tail)); rfl))))
      | ((with_reducible (apply wx_rd tt_ok)); (first | exact .inl rfl | exact .inr rfl); (first | exact Try.results18 | rfl); (repeat (first | exact Res.nil | (apply Res.tmp; rfl) | (apply Res.cell; rfl; (repeat (first | exact List.Mem.head _ | apply List.Mem.tail)); rfl))); (first | exact sub_refl | exact sub_drop1 | exact sub_drop2 | exact sub_keeps (ps := [0]) rfl | exact sub_keeps (ps := [1]) rfl | exact sub_keeps (ps := [2]) rfl | exact sub_keeps (ps := [3]) rfl | exact sub_keeps (ps := [0, 0]) rfl | exact sub_keeps (ps := [1, 0]) rfl | exact sub_keeps (ps := [1, 1]) rfl | exact sub_keeps (ps := [0, 1]) rfl | exact sub_keeps (ps := [2, 0]) rfl | exact sub_keeps (ps := [0, 2]) rfl | exact sub_keeps (ps := [2, 1]) rfl | exact sub_keeps (ps := [1, 2]) rfl | exact sub_keeps (ps := [2, 2]) rfl); (first | rfl | skip)))
    | ((with_reducible (apply wq_id)); first
      | (apply wq_arith tt_ok; rfl; rfl; (first | ((with_reducible refine fit_div_i64 ?_ ?_) <;> omega) | ((with_reducible refine fit_div_i32 ?_ ?_) <;> omega) | ((with_reducible refine fit_div_u64 ?_ ?_) <;> omega) | ((with_reducible refine fit_i64 ?_); omega) | ((with_reducible refine fit_i32 ?_); omega) | ((with_reducible refine fit_u64 ?_); omega) | ((with_reducible refine fit_u8 ?_); omega) | ((with_reducible refine fit_u32 ?_); omega) | ((with_reducible refine fit_u16 ?_); omega) | rfl); rfl)
      | (apply wq_boolish tt_ok; rfl; rfl; (first | (with_reducible first | exact bb_not_t | exact bb_not_f | exact bb_eq_t _ | exact bb_eq_f _ | exact bb_t_eq _ | exact bb_f_eq _ | exact bb_ne_t _ | exact bb_ne_f _ | exact bb_t_ne _ | exact bb_f_ne _ | exact bb_same _ | exact bb_nsame _ | exact bi_same _ | exact bi_nsame _) | rfl); rfl)
      | (refine wq_pure tt_ok rfl rfl ?_)
      | (apply wq_load tt_ok; rfl; (repeat (first | exact List.Mem.head _ | apply List.Mem.tail)); rfl; rfl)
      | (first | (apply wl_rd Try.call28; rfl; rfl; rfl; exact sub_keeps (ps := [0]) rfl; exact qFromOut _ _ _ _ _ _ _ (by omega) (by omega) (by omega) (by omega); rfl) | (apply wl_rd Try.call28; rfl; rfl; rfl; exact sub_keeps (ps := [1]) rfl; exact qFromOut _ _ _ _ _ _ _ (by omega) (by omega) (by omega) (by omega); rfl) | (apply wl_rd Try.call28; rfl; rfl; rfl; exact sub_keeps (ps := [2]) rfl; exact qFromOut _ _ _ _ _ _ _ (by omega) (by omega) (by omega) (by omega); rfl))
      | (apply wq_yes; rfl; rfl; (with_reducible rfl))
      | (apply wq_no_t; rfl; rfl; (with_reducible rfl); rfl)
      | (apply wq_no_f; rfl; rfl; (with_reducible rfl); rfl)
      | (apply wq_no_u; rfl; rfl; rfl)
      | (refine wq_guard rfl rfl (fun hc => ?_) (fun hc => ?_) <;> (first | (exfalso; contradiction) | ((try simp only [decide_eq_true_eq, decide_eq_false_iff_not, beq_iff_eq, bne_iff_ne, beq_eq_false_iff_ne, bne_eq_false_iff_eq, ne_eq, Decidable.not_not, Bool.not_eq_true', Bool.not_eq_false', Int.not_lt, Int.not_le] at hc); first | (exfalso; omega) | (exfalso; revert hc; decide) | skip)))
      | (with_reducible refine wq_nil ?_)))

theorem qAtIn (b g : Nat) (f first last u : Int) (n cap : Nat) (c : List Value) (t : TypeId) (h1 : U64 first) (h2 : first + n ≤ 18446744073709551615) (hc : n ≤ cap) (hf : U64 f) (ho : first ≤ f ∧ f < first + n)
    (hu : c[(f - first).toNat]? = some (.int .u8 u)) :
    Rd Try.prog 18 [.pointer (some ⟨b, 0, none⟩), .int .u64 f] [QB b first (.slice (some ⟨g, 0, none⟩) n cap) last, ⟨g, c, t, (0, 0)⟩] (.tuple #[.int .u8 u, .bool true]) := by
  refine sp_of_wc Try.func18 rfl Try.ntmps18 rfl rfl (fun w0 hR => ?_)
  repeat' (first
    | ((with_reducible (apply wl_id)); first
      | (apply wl_arith tt_ok; rfl; rfl; (first | ((with_reducible refine fit_div_i64 ?_ ?_) <;> omega) | ((with_reducible refine fit_div_i32 ?_ ?_) <;> omega) | ((with_reducible refine fit_div_u64 ?_ ?_) <;> omega) | ((with_reducible refine fit_i64 ?_); omega) | ((with_reducible refine fit_i32 ?_); omega) | ((with_reducible refine fit_u64 ?_); omega) | ((with_reducible refine fit_u8 ?_); omega) | ((with_reducible refine fit_u32 ?_); omega) | ((with_reducible refine fit_u16 ?_); omega) | rfl); rfl)
      | (apply wl_boolish tt_ok; rfl; rfl; (first | (with_reducible first | exact bb_not_t | exact bb_not_f | exact bb_eq_t _ | exact bb_eq_f _ | exact bb_t_eq _ | exact bb_f_eq _ | exact bb_ne_t _ | exact bb_ne_f _ | exact bb_t_ne _ | exact bb_f_ne _ | exact bb_same _ | exact bb_nsame _ | exact bi_same _ | exact bi_nsame _) | rfl); rfl)
      | (refine wl_pure tt_ok rfl rfl ?_)
      | (apply wl_load tt_ok; rfl; (repeat (first | exact List.Mem.head _ | apply List.Mem.tail)); rfl; rfl)
      | (first | (apply wl_rd Try.call28; rfl; rfl; rfl; exact sub_keeps (ps := [0]) rfl; exact qFromIn _ _ _ _ _ _ _ (by omega) (by omega) (by omega) (by omega) (by omega); rfl))
      | ((apply wl_val (val_at (j := 0) tt_ok rfl rfl rfl rfl rfl (by omega))); rfl)
      | ((apply wl_val (val_load_at tt_ok rfl (List.Mem.tail _ (List.Mem.head _)) rfl rfl (by simpa using hu))); rfl)
      | (apply wl_store tt_ok; rfl; (repeat (first | exact Upd.here | apply Upd.there)); rfl; rfl; rfl; rfl; rfl; rfl)
      | (refine wl_box rfl rfl rfl (fun _ => ?_))
      | (apply wl_build1 tt_ok; rfl; rfl; rfl; rfl; rfl; intro _)
      | (refine wl_alloc tt_ok rfl rfl (fun _ => ?_))
      | (apply wl_yes; rfl; rfl; (with_reducible rfl))
      | (apply wl_no_t; rfl; rfl; (with_reducible rfl); rfl)
      | (apply wl_no_f; rfl; rfl; (with_reducible rfl); rfl)
      | (apply wl_no_u; rfl; rfl; rfl)
      | (refine wl_guard rfl rfl (fun hc => ?_) (fun hc => ?_) <;> (first | (exfalso; contradiction) | ((try simp only [decide_eq_true_eq, decide_eq_false_iff_not, beq_iff_eq, bne_iff_ne, beq_eq_false_iff_ne, bne_eq_false_iff_eq, ne_eq, Decidable.not_not, Bool.not_eq_true', Bool.not_eq_false', Int.not_lt, Int.not_le] at hc); first | (exfalso; omega) | (exfalso; revert hc; decide) | skip)))
      | (with_reducible refine wl_nil ?_))
    | ((with_reducible (apply wc_id)); first
      | (with_reducible refine wc_seq ?_)
      | (with_reducible refine wc_region ?_)
      | (with_reducible refine wc_ret ?_)
      | (refine wc_cond rfl (fun hc => ?_) (fun hc => ?_) <;> (first | (exfalso; contradiction) | ((try simp only [decide_eq_true_eq, decide_eq_false_iff_not, beq_iff_eq, bne_iff_ne, beq_eq_false_iff_ne, bne_eq_false_iff_eq, ne_eq, Decidable.not_not, Bool.not_eq_true', Bool.not_eq_false', Int.not_lt, Int.not_le] at hc); first | (exfalso; omega) | (exfalso; revert hc; decide) | skip)))
      | (with_reducible refine wc_block ?_)
      | (with_reducible refine wc_skip ?_)
      | (with_reducible refine wc_exit ?_)
      | (with_reducible refine wc_quiet (by kernel_rfl) (by kernel_rfl) ?_))
    | ((with_reducible (apply wx_id)); first
      | (with_reducible refine wx_then ?_)
      | (with_reducible refine wx_block ?_)
      | (with_reducible refine wx_block_exit ?_)
      | (with_reducible refine wx_block_other (by rfl) ?_)
      | (with_reducible refine wx_block_ret ?_)
      | (with_reducible refine wx_then_exit ?_)
      | (with_reducible refine wx_then_ret ?_)
      | ((with_reducible (apply wx_pf tt_ok)); (first | exact .inl rfl | exact .inr rfl); (first | exact Try.results18 | rfl); (repeat (first | exact Res.nil | (apply Res.tmp; rfl) | (apply Res.cell; rfl; (repeat (first | exact List.Mem.head _ | apply List.Mem.tail)); rfl))))
      | ((with_reducible (apply wx_rd tt_ok)); (first | exact .inl rfl | exact .inr rfl); (first | exact Try.results18 | rfl); (repeat (first | exact Res.nil | (apply Res.tmp; rfl) | (apply Res.cell; rfl; (repeat (first | exact List.Mem.head _ | apply List.Mem.tail)); rfl))); (first | exact sub_refl | exact sub_drop1 | exact sub_drop2 | exact sub_keeps (ps := [0]) rfl | exact sub_keeps (ps := [1]) rfl | exact sub_keeps (ps := [2]) rfl | exact sub_keeps (ps := [3]) rfl | exact sub_keeps (ps := [0, 0]) rfl | exact sub_keeps (ps := [1, 0]) rfl | exact sub_keeps (ps := [1, 1]) rfl | exact sub_keeps (ps := [0, 1]) rfl | exact sub_keeps (ps := [2, 0]) rfl | exact sub_keeps (ps := [0, 2]) rfl | exact sub_keeps (ps := [2, 1]) rfl | exact sub_keeps (ps := [1, 2]) rfl | exact sub_keeps (ps := [2, 2]) rfl); (first | rfl | skip)))
    | ((with_reducible (apply wq_id)); first
      | (apply wq_arith tt_ok; rfl; rfl; (first | ((with_reducible refine fit_div_i64 ?_ ?_) <;> omega) | ((with_reducible refine fit_div_i32 ?_ ?_) <;> omega) | ((with_reducible refine fit_div_u64 ?_ ?_) <;> omega) | ((with_reducible refine fit_i64 ?_); omega) | ((with_reducible refine fit_i32 ?_); omega) | ((with_reducible refine fit_u64 ?_); omega) | ((with_reducible refine fit_u8 ?_); omega) | ((with_reducible refine fit_u32 ?_); omega) | ((with_reducible refine fit_u16 ?_); omega) | rfl); rfl)
      | (apply wq_boolish tt_ok; rfl; rfl; (first | (with_reducible first | exact bb_not_t | exact bb_not_f | exact bb_eq_t _ | exact bb_eq_f _ | exact bb_t_eq _ | exact bb_f_eq _ | exact bb_ne_t _ | exact bb_ne_f _ | exact bb_t_ne _ | exact bb_f_ne _ | exact bb_same _ | exact bb_nsame _ | exact bi_same _ | exact bi_nsame _) | rfl); rfl)
      | (refine wq_pure tt_ok rfl rfl ?_)
      | (apply wq_load tt_ok; rfl; (repeat (first | exact List.Mem.head _ | apply List.Mem.tail)); rfl; rfl)
      | (first | (apply wl_rd Try.call28; rfl; rfl; rfl; exact sub_keeps (ps := [0]) rfl; exact qFromIn _ _ _ _ _ _ _ (by omega) (by omega) (by omega) (by omega) (by omega); rfl))
      | ((apply wq_val (val_at (j := 0) tt_ok rfl rfl rfl rfl rfl (by omega))); rfl)
      | ((apply wq_val (val_load_at tt_ok rfl (List.Mem.tail _ (List.Mem.head _)) rfl rfl (by simpa using hu))); rfl)
      | (apply wq_yes; rfl; rfl; (with_reducible rfl))
      | (apply wq_no_t; rfl; rfl; (with_reducible rfl); rfl)
      | (apply wq_no_f; rfl; rfl; (with_reducible rfl); rfl)
      | (apply wq_no_u; rfl; rfl; rfl)
      | (refine wq_guard rfl rfl (fun hc => ?_) (fun hc => ?_) <;> (first | (exfalso; contradiction) | ((try simp only [decide_eq_true_eq, decide_eq_false_iff_not, beq_iff_eq, bne_iff_ne, beq_eq_false_iff_ne, bne_eq_false_iff_eq, ne_eq, Decidable.not_not, Bool.not_eq_true', Bool.not_eq_false', Int.not_lt, Int.not_le] at hc); first | (exfalso; omega) | (exfalso; revert hc; decide) | skip)))
      | (with_reducible refine wq_nil ?_)))

theorem qNew (first : Int) : Sp Try.prog 8 [.int .u64 first] [] (fun _ => True) (fun v L' => ∃ b, v = .pointer (some ⟨b, 0, none⟩) ∧ L' = [QB b first (.slice none 0 0) 0]) := by
  refine sp_of_wc Try.func8 rfl Try.ntmps8 rfl rfl (fun w0 hR => ?_)
  repeat' (first
    | ((with_reducible (apply wl_id)); first
      | (apply wl_arith tt_ok; rfl; rfl; (first | ((with_reducible refine fit_div_i64 ?_ ?_) <;> omega) | ((with_reducible refine fit_div_i32 ?_ ?_) <;> omega) | ((with_reducible refine fit_div_u64 ?_ ?_) <;> omega) | ((with_reducible refine fit_i64 ?_); omega) | ((with_reducible refine fit_i32 ?_); omega) | ((with_reducible refine fit_u64 ?_); omega) | ((with_reducible refine fit_u8 ?_); omega) | ((with_reducible refine fit_u32 ?_); omega) | ((with_reducible refine fit_u16 ?_); omega) | rfl); rfl)
      | (apply wl_boolish tt_ok; rfl; rfl; (first | (with_reducible first | exact bb_not_t | exact bb_not_f | exact bb_eq_t _ | exact bb_eq_f _ | exact bb_t_eq _ | exact bb_f_eq _ | exact bb_ne_t _ | exact bb_ne_f _ | exact bb_t_ne _ | exact bb_f_ne _ | exact bb_same _ | exact bb_nsame _ | exact bi_same _ | exact bi_nsame _) | rfl); rfl)
      | (refine wl_pure tt_ok rfl rfl ?_)
      | (apply wl_load tt_ok; rfl; (repeat (first | exact List.Mem.head _ | apply List.Mem.tail)); rfl; rfl)
      | (apply wl_store tt_ok; rfl; (repeat (first | exact Upd.here | apply Upd.there)); rfl; rfl; rfl; rfl; rfl; rfl)
      | (refine wl_box rfl rfl rfl (fun _ => ?_))
      | (apply wl_build1 tt_ok; rfl; rfl; rfl; rfl; rfl; intro _)
      | (refine wl_alloc tt_ok rfl rfl (fun _ => ?_))
      | (apply wl_yes; rfl; rfl; (with_reducible rfl))
      | (apply wl_no_t; rfl; rfl; (with_reducible rfl); rfl)
      | (apply wl_no_f; rfl; rfl; (with_reducible rfl); rfl)
      | (apply wl_no_u; rfl; rfl; rfl)
      | (refine wl_guard rfl rfl (fun hc => ?_) (fun hc => ?_) <;> (first | (exfalso; contradiction) | ((try simp only [decide_eq_true_eq, decide_eq_false_iff_not, beq_iff_eq, bne_iff_ne, beq_eq_false_iff_ne, bne_eq_false_iff_eq, ne_eq, Decidable.not_not, Bool.not_eq_true', Bool.not_eq_false', Int.not_lt, Int.not_le] at hc); first | (exfalso; omega) | (exfalso; revert hc; decide) | skip)))
      | (with_reducible refine wl_nil ?_))
    | ((with_reducible (apply wc_id)); first
      | (with_reducible refine wc_seq ?_)
      | (with_reducible refine wc_region ?_)
      | (with_reducible refine wc_ret ?_)
      | (refine wc_cond rfl (fun hc => ?_) (fun hc => ?_) <;> (first | (exfalso; contradiction) | ((try simp only [decide_eq_true_eq, decide_eq_false_iff_not, beq_iff_eq, bne_iff_ne, beq_eq_false_iff_ne, bne_eq_false_iff_eq, ne_eq, Decidable.not_not, Bool.not_eq_true', Bool.not_eq_false', Int.not_lt, Int.not_le] at hc); first | (exfalso; omega) | (exfalso; revert hc; decide) | skip)))
      | (with_reducible refine wc_block ?_)
      | (with_reducible refine wc_skip ?_)
      | (with_reducible refine wc_exit ?_)
      | (with_reducible refine wc_quiet (by kernel_rfl) (by kernel_rfl) ?_))
    | ((with_reducible (apply wx_id)); first
      | (with_reducible refine wx_then ?_)
      | (with_reducible refine wx_block ?_)
      | (with_reducible refine wx_block_exit ?_)
      | (with_reducible refine wx_block_other (by rfl) ?_)
      | (with_reducible refine wx_block_ret ?_)
      | (with_reducible refine wx_then_exit ?_)
      | (with_reducible refine wx_then_ret ?_)
      | ((with_reducible (apply wx_pf tt_ok)); (first | exact .inl rfl | exact .inr rfl); (first | exact Try.results8 | rfl); (repeat (first | exact Res.nil | (apply Res.tmp; rfl) | (apply Res.cell; rfl; (repeat (first | exact List.Mem.head _ | apply List.Mem.tail)); rfl))))
      | ((with_reducible (apply wx_rd tt_ok)); (first | exact .inl rfl | exact .inr rfl); (first | exact Try.results8 | rfl); (repeat (first | exact Res.nil | (apply Res.tmp; rfl) | (apply Res.cell; rfl; (repeat (first | exact List.Mem.head _ | apply List.Mem.tail)); rfl))); (first | exact sub_refl | exact sub_drop1 | exact sub_drop2 | exact sub_keeps (ps := [0]) rfl | exact sub_keeps (ps := [1]) rfl | exact sub_keeps (ps := [2]) rfl | exact sub_keeps (ps := [3]) rfl | exact sub_keeps (ps := [0, 0]) rfl | exact sub_keeps (ps := [1, 0]) rfl | exact sub_keeps (ps := [1, 1]) rfl | exact sub_keeps (ps := [0, 1]) rfl | exact sub_keeps (ps := [2, 0]) rfl | exact sub_keeps (ps := [0, 2]) rfl | exact sub_keeps (ps := [2, 1]) rfl | exact sub_keeps (ps := [1, 2]) rfl | exact sub_keeps (ps := [2, 2]) rfl); (first | rfl | skip))
      | ((with_reducible (apply wx_sp tt_ok)); (first | exact .inl rfl | exact .inr rfl); (first | exact Try.results8 | rfl); (repeat (first | exact Res.nil | (apply Res.tmp; rfl) | (apply Res.cell; rfl; (repeat (first | exact List.Mem.head _ | apply List.Mem.tail)); rfl))); rotate_left; exact ⟨_, rfl, rfl⟩; (first | exact sub_refl | exact sub_drop1 | exact sub_drop2 | exact sub_keeps (ps := [0]) rfl | exact sub_keeps (ps := [1]) rfl | exact sub_keeps (ps := [2]) rfl | exact sub_keeps (ps := [3]) rfl | exact sub_keeps (ps := [0, 0]) rfl | exact sub_keeps (ps := [1, 0]) rfl | exact sub_keeps (ps := [1, 1]) rfl | exact sub_keeps (ps := [0, 1]) rfl | exact sub_keeps (ps := [2, 0]) rfl | exact sub_keeps (ps := [0, 2]) rfl | exact sub_keeps (ps := [2, 1]) rfl | exact sub_keeps (ps := [1, 2]) rfl | exact sub_keeps (ps := [2, 2]) rfl)))
    | ((with_reducible (apply wq_id)); first
      | (apply wq_arith tt_ok; rfl; rfl; (first | ((with_reducible refine fit_div_i64 ?_ ?_) <;> omega) | ((with_reducible refine fit_div_i32 ?_ ?_) <;> omega) | ((with_reducible refine fit_div_u64 ?_ ?_) <;> omega) | ((with_reducible refine fit_i64 ?_); omega) | ((with_reducible refine fit_i32 ?_); omega) | ((with_reducible refine fit_u64 ?_); omega) | ((with_reducible refine fit_u8 ?_); omega) | ((with_reducible refine fit_u32 ?_); omega) | ((with_reducible refine fit_u16 ?_); omega) | rfl); rfl)
      | (apply wq_boolish tt_ok; rfl; rfl; (first | (with_reducible first | exact bb_not_t | exact bb_not_f | exact bb_eq_t _ | exact bb_eq_f _ | exact bb_t_eq _ | exact bb_f_eq _ | exact bb_ne_t _ | exact bb_ne_f _ | exact bb_t_ne _ | exact bb_f_ne _ | exact bb_same _ | exact bb_nsame _ | exact bi_same _ | exact bi_nsame _) | rfl); rfl)
      | (refine wq_pure tt_ok rfl rfl ?_)
      | (apply wq_load tt_ok; rfl; (repeat (first | exact List.Mem.head _ | apply List.Mem.tail)); rfl; rfl)
      | (apply wq_yes; rfl; rfl; (with_reducible rfl))
      | (apply wq_no_t; rfl; rfl; (with_reducible rfl); rfl)
      | (apply wq_no_f; rfl; rfl; (with_reducible rfl); rfl)
      | (apply wq_no_u; rfl; rfl; rfl)
      | (refine wq_guard rfl rfl (fun hc => ?_) (fun hc => ?_) <;> (first | (exfalso; contradiction) | ((try simp only [decide_eq_true_eq, decide_eq_false_iff_not, beq_iff_eq, bne_iff_ne, beq_eq_false_iff_ne, bne_eq_false_iff_eq, ne_eq, Decidable.not_not, Bool.not_eq_true', Bool.not_eq_false', Int.not_lt, Int.not_le] at hc); first | (exfalso; omega) | (exfalso; revert hc; decide) | skip)))
      | (with_reducible refine wq_nil ?_)))

abbrev u8s (l : List Int) : List Value := l.map fun x => .int .u8 x

/-- An input that comes next is put behind the list. -/
theorem qAddNil (b : Nat) (first last : Int) (i : Int) (h1 : U64 first) (h2 : first < 18446744073709551615) (hi : 0 ≤ i ∧ i < 64) :
    Sp Try.prog 10 [.pointer (some ⟨b, 0, none⟩), .int .u64 first, .int .u8 i] [QB b first (.slice none 0 0) last] (fun _ => True)
      (fun v L' => v = .int .i64 0 ∧ ∃ a cap B, Vec 31 1 (.slice a 1 cap) 1 [.int .u8 i] B ∧ L' = QB b first (.slice a 1 cap) i :: B) := by
  refine sp_of_wc Try.func10 rfl Try.ntmps10 rfl rfl (fun w0 hR => ?_)
  repeat' (first
    | ((with_reducible (apply wl_id)); first
      | (apply wl_arith tt_ok; rfl; rfl; (first | ((with_reducible refine fit_div_i64 ?_ ?_) <;> omega) | ((with_reducible refine fit_div_i32 ?_ ?_) <;> omega) | ((with_reducible refine fit_div_u64 ?_ ?_) <;> omega) | ((with_reducible refine fit_i64 ?_); omega) | ((with_reducible refine fit_i32 ?_); omega) | ((with_reducible refine fit_u64 ?_); omega) | ((with_reducible refine fit_u8 ?_); omega) | ((with_reducible refine fit_u32 ?_); omega) | ((with_reducible refine fit_u16 ?_); omega) | rfl); rfl)
      | (apply wl_boolish tt_ok; rfl; rfl; (first | (with_reducible first | exact bb_not_t | exact bb_not_f | exact bb_eq_t _ | exact bb_eq_f _ | exact bb_t_eq _ | exact bb_f_eq _ | exact bb_ne_t _ | exact bb_ne_f _ | exact bb_t_ne _ | exact bb_f_ne _ | exact bb_same _ | exact bb_nsame _ | exact bi_same _ | exact bi_nsame _) | rfl); rfl)
      | (refine wl_pure tt_ok rfl rfl ?_)
      | (apply wl_load tt_ok; rfl; (repeat (first | exact List.Mem.head _ | apply List.Mem.tail)); rfl; rfl)
      | (first | (apply wl_rd Try.call9; rfl; rfl; rfl; exact sub_keeps (ps := [0]) rfl; exact qKnown _ _ _ _ _ _ (by omega) (by omega); rfl) | (apply wl_rd Try.call9; rfl; rfl; rfl; exact sub_keeps (ps := [1]) rfl; exact qKnown _ _ _ _ _ _ (by omega) (by omega); rfl) | (apply wl_rd Try.call9; rfl; rfl; rfl; exact sub_keeps (ps := [2]) rfl; exact qKnown _ _ _ _ _ _ (by omega) (by omega); rfl))
      | (first | (apply wl_rd Try.call18; rfl; rfl; rfl; exact sub_keeps (ps := [0]) rfl; exact qAtOut _ _ _ _ _ _ _ (by omega) (by omega) (by omega) (by omega); rfl) | (apply wl_rd Try.call18; rfl; rfl; rfl; exact sub_keeps (ps := [1]) rfl; exact qAtOut _ _ _ _ _ _ _ (by omega) (by omega) (by omega) (by omega); rfl) | (apply wl_rd Try.call18; rfl; rfl; rfl; exact sub_keeps (ps := [2]) rfl; exact qAtOut _ _ _ _ _ _ _ (by omega) (by omega) (by omega) (by omega); rfl))
      | (refine wl_pf Try.call27 rfl rfl rfl (legal_any _) (fun _ _ => trivial) rfl ?_)
      | (apply wl_append1 tt_ok; rfl; rfl; rfl; rfl; (repeat (first | exact List.Mem.head _ | apply List.Mem.tail)); rfl; rfl; decide; exact Vec.none; exact List.Perm.refl _; (first | decide | (simp only [maxLen]; omega)); (first | decide | omega); rfl; rintro _ _ _ hV)
      | (apply wl_store tt_ok; rfl; (repeat (first | exact Upd.here | apply Upd.there)); rfl; rfl; rfl; rfl; rfl; rfl)
      | (refine wl_box rfl rfl rfl (fun _ => ?_))
      | (apply wl_build1 tt_ok; rfl; rfl; rfl; rfl; rfl; intro _)
      | (refine wl_alloc tt_ok rfl rfl (fun _ => ?_))
      | (apply wl_yes; rfl; rfl; (with_reducible rfl))
      | (apply wl_no_t; rfl; rfl; (with_reducible rfl); rfl)
      | (apply wl_no_f; rfl; rfl; (with_reducible rfl); rfl)
      | (apply wl_no_u; rfl; rfl; rfl)
      | (refine wl_guard rfl rfl (fun hc => ?_) (fun hc => ?_) <;> (first | (exfalso; contradiction) | ((try simp only [decide_eq_true_eq, decide_eq_false_iff_not, beq_iff_eq, bne_iff_ne, beq_eq_false_iff_ne, bne_eq_false_iff_eq, ne_eq, Decidable.not_not, Bool.not_eq_true', Bool.not_eq_false', Int.not_lt, Int.not_le] at hc); first | (exfalso; omega) | (exfalso; revert hc; decide) | skip)))
      | (with_reducible refine wl_nil ?_))
    | ((with_reducible (apply wc_id)); first
      | (with_reducible refine wc_seq ?_)
      | (with_reducible refine wc_region ?_)
      | (with_reducible refine wc_ret ?_)
      | (refine wc_cond rfl (fun hc => ?_) (fun hc => ?_) <;> (first | (exfalso; contradiction) | ((try simp only [decide_eq_true_eq, decide_eq_false_iff_not, beq_iff_eq, bne_iff_ne, beq_eq_false_iff_ne, bne_eq_false_iff_eq, ne_eq, Decidable.not_not, Bool.not_eq_true', Bool.not_eq_false', Int.not_lt, Int.not_le] at hc); first | (exfalso; omega) | (exfalso; revert hc; decide) | skip)))
      | (with_reducible refine wc_block ?_)
      | (with_reducible refine wc_skip ?_)
      | (with_reducible refine wc_exit ?_)
      | (with_reducible refine wc_quiet (by kernel_rfl) (by kernel_rfl) ?_))
    | ((with_reducible (apply wx_id)); first
      | (with_reducible refine wx_then ?_)
      | (with_reducible refine wx_block ?_)
      | (with_reducible refine wx_block_exit ?_)
      | (with_reducible refine wx_block_other (by rfl) ?_)
      | (with_reducible refine wx_block_ret ?_)
      | (with_reducible refine wx_then_exit ?_)
      | (with_reducible refine wx_then_ret ?_)
      | ((with_reducible (apply wx_pf tt_ok)); (first | exact .inl rfl | exact .inr rfl); (first | exact Try.results10 | rfl); (repeat (first | exact Res.nil | (apply Res.tmp; rfl) | (apply Res.cell; rfl; (repeat (first | exact List.Mem.head _ | apply List.Mem.tail)); rfl))))
      | ((with_reducible (apply wx_rd tt_ok)); (first | exact .inl rfl | exact .inr rfl); (first | exact Try.results10 | rfl); (repeat (first | exact Res.nil | (apply Res.tmp; rfl) | (apply Res.cell; rfl; (repeat (first | exact List.Mem.head _ | apply List.Mem.tail)); rfl))); (first | exact sub_refl | exact sub_drop1 | exact sub_drop2 | exact sub_keeps (ps := [0]) rfl | exact sub_keeps (ps := [1]) rfl | exact sub_keeps (ps := [2]) rfl | exact sub_keeps (ps := [3]) rfl | exact sub_keeps (ps := [0, 0]) rfl | exact sub_keeps (ps := [1, 0]) rfl | exact sub_keeps (ps := [1, 1]) rfl | exact sub_keeps (ps := [0, 1]) rfl | exact sub_keeps (ps := [2, 0]) rfl | exact sub_keeps (ps := [0, 2]) rfl | exact sub_keeps (ps := [2, 1]) rfl | exact sub_keeps (ps := [1, 2]) rfl | exact sub_keeps (ps := [2, 2]) rfl); (first | rfl | skip))
      | ((with_reducible (apply wx_sp tt_ok)); (first | exact .inl rfl | exact .inr rfl); (first | exact Try.results10 | rfl); (repeat (first | exact Res.nil | (apply Res.tmp; rfl) | (apply Res.cell; rfl; (repeat (first | exact List.Mem.head _ | apply List.Mem.tail)); rfl))); rotate_left; exact ⟨rfl, _, _, _, hV, rfl⟩; (first | exact sub_refl | exact sub_drop1 | exact sub_drop2 | exact sub_keeps (ps := [0]) rfl | exact sub_keeps (ps := [1]) rfl | exact sub_keeps (ps := [2]) rfl | exact sub_keeps (ps := [3]) rfl | exact sub_keeps (ps := [0, 0]) rfl | exact sub_keeps (ps := [1, 0]) rfl | exact sub_keeps (ps := [1, 1]) rfl | exact sub_keeps (ps := [0, 1]) rfl | exact sub_keeps (ps := [2, 0]) rfl | exact sub_keeps (ps := [0, 2]) rfl | exact sub_keeps (ps := [2, 1]) rfl | exact sub_keeps (ps := [1, 2]) rfl | exact sub_keeps (ps := [2, 2]) rfl)))
    | ((with_reducible (apply wq_id)); first
      | (apply wq_arith tt_ok; rfl; rfl; (first | ((with_reducible refine fit_div_i64 ?_ ?_) <;> omega) | ((with_reducible refine fit_div_i32 ?_ ?_) <;> omega) | ((with_reducible refine fit_div_u64 ?_ ?_) <;> omega) | ((with_reducible refine fit_i64 ?_); omega) | ((with_reducible refine fit_i32 ?_); omega) | ((with_reducible refine fit_u64 ?_); omega) | ((with_reducible refine fit_u8 ?_); omega) | ((with_reducible refine fit_u32 ?_); omega) | ((with_reducible refine fit_u16 ?_); omega) | rfl); rfl)
      | (apply wq_boolish tt_ok; rfl; rfl; (first | (with_reducible first | exact bb_not_t | exact bb_not_f | exact bb_eq_t _ | exact bb_eq_f _ | exact bb_t_eq _ | exact bb_f_eq _ | exact bb_ne_t _ | exact bb_ne_f _ | exact bb_t_ne _ | exact bb_f_ne _ | exact bb_same _ | exact bb_nsame _ | exact bi_same _ | exact bi_nsame _) | rfl); rfl)
      | (refine wq_pure tt_ok rfl rfl ?_)
      | (apply wq_load tt_ok; rfl; (repeat (first | exact List.Mem.head _ | apply List.Mem.tail)); rfl; rfl)
      | (first | (apply wl_rd Try.call9; rfl; rfl; rfl; exact sub_keeps (ps := [0]) rfl; exact qKnown _ _ _ _ _ _ (by omega) (by omega); rfl) | (apply wl_rd Try.call9; rfl; rfl; rfl; exact sub_keeps (ps := [1]) rfl; exact qKnown _ _ _ _ _ _ (by omega) (by omega); rfl) | (apply wl_rd Try.call9; rfl; rfl; rfl; exact sub_keeps (ps := [2]) rfl; exact qKnown _ _ _ _ _ _ (by omega) (by omega); rfl))
      | (first | (apply wl_rd Try.call18; rfl; rfl; rfl; exact sub_keeps (ps := [0]) rfl; exact qAtOut _ _ _ _ _ _ _ (by omega) (by omega) (by omega) (by omega); rfl) | (apply wl_rd Try.call18; rfl; rfl; rfl; exact sub_keeps (ps := [1]) rfl; exact qAtOut _ _ _ _ _ _ _ (by omega) (by omega) (by omega) (by omega); rfl) | (apply wl_rd Try.call18; rfl; rfl; rfl; exact sub_keeps (ps := [2]) rfl; exact qAtOut _ _ _ _ _ _ _ (by omega) (by omega) (by omega) (by omega); rfl))
      | (refine wq_pf Try.call27 rfl rfl rfl (legal_any _) (fun _ _ => trivial) rfl ?_)
      | (apply wl_append1 tt_ok; rfl; rfl; rfl; rfl; (repeat (first | exact List.Mem.head _ | apply List.Mem.tail)); rfl; rfl; decide; exact Vec.none; exact List.Perm.refl _; (first | decide | (simp only [maxLen]; omega)); (first | decide | omega); rfl; rintro _ _ _ hV)
      | (apply wq_yes; rfl; rfl; (with_reducible rfl))
      | (apply wq_no_t; rfl; rfl; (with_reducible rfl); rfl)
      | (apply wq_no_f; rfl; rfl; (with_reducible rfl); rfl)
      | (apply wq_no_u; rfl; rfl; rfl)
      | (refine wq_guard rfl rfl (fun hc => ?_) (fun hc => ?_) <;> (first | (exfalso; contradiction) | ((try simp only [decide_eq_true_eq, decide_eq_false_iff_not, beq_iff_eq, bne_iff_ne, beq_eq_false_iff_ne, bne_eq_false_iff_eq, ne_eq, Decidable.not_not, Bool.not_eq_true', Bool.not_eq_false', Int.not_lt, Int.not_le] at hc); first | (exfalso; omega) | (exfalso; revert hc; decide) | skip)))
      | (with_reducible refine wq_nil ?_)))

/-- What Add answers, but for ErrNil. -/
def qErr (first : Int) (l : List Int) (f i : Int) : Int :=
  if 64 ≤ i then 2 else if f < first then 0 else if f < first + l.length then (if l.getD (f - first).toNat 0 = i then 0 else 14)
  else if first + l.length < f ∨ f = 18446744073709551615 then 11 else if 24 ≤ l.length then 7 else 0

theorem qAddNot (b : Nat) (f first last i : Int) (l : List Int) (a : Option Addr) (cap : Nat) (B : List Blk) (hV : Vec 31 1 (.slice a l.length cap) l.length (u8s l) B) (h1 : U64 first) (h2 : first + l.length ≤ 18446744073709551615)
    (hf : U64 f) (hi : 0 ≤ i ∧ i ≤ 255) (hno : ¬ (i < 64 ∧ f = first + l.length ∧ f ≠ 18446744073709551615 ∧ l.length < 24)) :
    Rd Try.prog 10 [.pointer (some ⟨b, 0, none⟩), .int .u64 f, .int .u8 i] (QB b first (.slice a l.length cap) last :: B) (.int .i64 (qErr first l f i)) := by
  have hB : ∃ e, qErr first l f i = e := ⟨_, rfl⟩
  obtain ⟨e, he⟩ := hB
  rw [he]
  by_cases ho : f < first ∨ first + l.length ≤ f
  · rcases hV.2 with ⟨hs, hn, rfl⟩ | ⟨g, cap', r, hs, hcap, _, _, rfl⟩
    all_goals
      (generalize hk : l.length = k at *
       refine sp_of_wc Try.func10 rfl Try.ntmps10 rfl rfl (fun w0 hR => ?_)
       repeat' (first
    | ((with_reducible (apply wl_id)); first
      | (apply wl_arith tt_ok; rfl; rfl; (first | ((with_reducible refine fit_div_i64 ?_ ?_) <;> omega) | ((with_reducible refine fit_div_i32 ?_ ?_) <;> omega) | ((with_reducible refine fit_div_u64 ?_ ?_) <;> omega) | ((with_reducible refine fit_i64 ?_); omega) | ((with_reducible refine fit_i32 ?_); omega) | ((with_reducible refine fit_u64 ?_); omega) | ((with_reducible refine fit_u8 ?_); omega) | ((with_reducible refine fit_u32 ?_); omega) | ((with_reducible refine fit_u16 ?_); omega) | rfl); rfl)
      | (apply wl_boolish tt_ok; rfl; rfl; (first | (with_reducible first | exact bb_not_t | exact bb_not_f | exact bb_eq_t _ | exact bb_eq_f _ | exact bb_t_eq _ | exact bb_f_eq _ | exact bb_ne_t _ | exact bb_ne_f _ | exact bb_t_ne _ | exact bb_f_ne _ | exact bb_same _ | exact bb_nsame _ | exact bi_same _ | exact bi_nsame _) | rfl); rfl)
      | (refine wl_pure tt_ok rfl rfl ?_)
      | (apply wl_load tt_ok; rfl; (repeat (first | exact List.Mem.head _ | apply List.Mem.tail)); rfl; rfl)
      | (first | (apply wl_rd Try.call9; rfl; rfl; rfl; exact sub_keeps (ps := [0]) rfl; exact qKnown _ _ _ _ _ _ (by omega) (by omega); rfl))
      | (first | (apply wl_rd Try.call18; rfl; rfl; rfl; exact sub_keeps (ps := [0]) rfl; exact qAtOut _ _ _ _ _ _ _ (by omega) (by omega) (by omega) (by omega); rfl))
      | (refine wl_pf Try.call27 rfl rfl rfl (legal_any _) (fun _ _ => trivial) rfl ?_)
      | (apply wl_store tt_ok; rfl; (repeat (first | exact Upd.here | apply Upd.there)); rfl; rfl; rfl; rfl; rfl; rfl)
      | (refine wl_box rfl rfl rfl (fun _ => ?_))
      | (apply wl_build1 tt_ok; rfl; rfl; rfl; rfl; rfl; intro _)
      | (refine wl_alloc tt_ok rfl rfl (fun _ => ?_))
      | (apply wl_yes; rfl; rfl; (with_reducible rfl))
      | (apply wl_no_t; rfl; rfl; (with_reducible rfl); rfl)
      | (apply wl_no_f; rfl; rfl; (with_reducible rfl); rfl)
      | (apply wl_no_u; rfl; rfl; rfl)
      | (refine wl_guard rfl rfl (fun hc => ?_) (fun hc => ?_) <;> (first | (exfalso; contradiction) | ((try simp only [decide_eq_true_eq, decide_eq_false_iff_not, beq_iff_eq, bne_iff_ne, beq_eq_false_iff_ne, bne_eq_false_iff_eq, ne_eq, Decidable.not_not, Bool.not_eq_true', Bool.not_eq_false', Int.not_lt, Int.not_le] at hc); first | (exfalso; omega) | (exfalso; revert hc; decide) | skip)))
      | (with_reducible refine wl_nil ?_))
    | ((with_reducible (apply wc_id)); first
      | (with_reducible refine wc_seq ?_)
      | (with_reducible refine wc_region ?_)
      | (with_reducible refine wc_ret ?_)
      | (refine wc_cond rfl (fun hc => ?_) (fun hc => ?_) <;> (first | (exfalso; contradiction) | ((try simp only [decide_eq_true_eq, decide_eq_false_iff_not, beq_iff_eq, bne_iff_ne, beq_eq_false_iff_ne, bne_eq_false_iff_eq, ne_eq, Decidable.not_not, Bool.not_eq_true', Bool.not_eq_false', Int.not_lt, Int.not_le] at hc); first | (exfalso; omega) | (exfalso; revert hc; decide) | skip)))
      | (with_reducible refine wc_block ?_)
      | (with_reducible refine wc_skip ?_)
      | (with_reducible refine wc_exit ?_)
      | (with_reducible refine wc_quiet (by kernel_rfl) (by kernel_rfl) ?_))
    | ((with_reducible (apply wx_id)); first
      | (with_reducible refine wx_then ?_)
      | (with_reducible refine wx_block ?_)
      | (with_reducible refine wx_block_exit ?_)
      | (with_reducible refine wx_block_other (by rfl) ?_)
      | (with_reducible refine wx_block_ret ?_)
      | (with_reducible refine wx_then_exit ?_)
      | (with_reducible refine wx_then_ret ?_)
      | ((with_reducible (apply wx_pf tt_ok)); (first | exact .inl rfl | exact .inr rfl); (first | exact Try.results10 | rfl); (repeat (first | exact Res.nil | (apply Res.tmp; rfl) | (apply Res.cell; rfl; (repeat (first | exact List.Mem.head _ | apply List.Mem.tail)); rfl))))
      | ((with_reducible (apply wx_rd tt_ok)); (first | exact .inl rfl | exact .inr rfl); (first | exact Try.results10 | rfl); (repeat (first | exact Res.nil | (apply Res.tmp; rfl) | (apply Res.cell; rfl; (repeat (first | exact List.Mem.head _ | apply List.Mem.tail)); rfl))); (first | exact sub_refl | exact sub_drop1 | exact sub_drop2 | exact sub_keeps (ps := [0]) rfl | exact sub_keeps (ps := [1]) rfl | exact sub_keeps (ps := [2]) rfl | exact sub_keeps (ps := [3]) rfl | exact sub_keeps (ps := [0, 0]) rfl | exact sub_keeps (ps := [1, 0]) rfl | exact sub_keeps (ps := [1, 1]) rfl | exact sub_keeps (ps := [0, 1]) rfl | exact sub_keeps (ps := [2, 0]) rfl | exact sub_keeps (ps := [0, 2]) rfl | exact sub_keeps (ps := [2, 1]) rfl | exact sub_keeps (ps := [1, 2]) rfl | exact sub_keeps (ps := [2, 2]) rfl); (first | rfl | skip)))
    | ((with_reducible (apply wq_id)); first
      | (apply wq_arith tt_ok; rfl; rfl; (first | ((with_reducible refine fit_div_i64 ?_ ?_) <;> omega) | ((with_reducible refine fit_div_i32 ?_ ?_) <;> omega) | ((with_reducible refine fit_div_u64 ?_ ?_) <;> omega) | ((with_reducible refine fit_i64 ?_); omega) | ((with_reducible refine fit_i32 ?_); omega) | ((with_reducible refine fit_u64 ?_); omega) | ((with_reducible refine fit_u8 ?_); omega) | ((with_reducible refine fit_u32 ?_); omega) | ((with_reducible refine fit_u16 ?_); omega) | rfl); rfl)
      | (apply wq_boolish tt_ok; rfl; rfl; (first | (with_reducible first | exact bb_not_t | exact bb_not_f | exact bb_eq_t _ | exact bb_eq_f _ | exact bb_t_eq _ | exact bb_f_eq _ | exact bb_ne_t _ | exact bb_ne_f _ | exact bb_t_ne _ | exact bb_f_ne _ | exact bb_same _ | exact bb_nsame _ | exact bi_same _ | exact bi_nsame _) | rfl); rfl)
      | (refine wq_pure tt_ok rfl rfl ?_)
      | (apply wq_load tt_ok; rfl; (repeat (first | exact List.Mem.head _ | apply List.Mem.tail)); rfl; rfl)
      | (first | (apply wl_rd Try.call9; rfl; rfl; rfl; exact sub_keeps (ps := [0]) rfl; exact qKnown _ _ _ _ _ _ (by omega) (by omega); rfl))
      | (first | (apply wl_rd Try.call18; rfl; rfl; rfl; exact sub_keeps (ps := [0]) rfl; exact qAtOut _ _ _ _ _ _ _ (by omega) (by omega) (by omega) (by omega); rfl))
      | (refine wq_pf Try.call27 rfl rfl rfl (legal_any _) (fun _ _ => trivial) rfl ?_)
      | (apply wq_yes; rfl; rfl; (with_reducible rfl))
      | (apply wq_no_t; rfl; rfl; (with_reducible rfl); rfl)
      | (apply wq_no_f; rfl; rfl; (with_reducible rfl); rfl)
      | (apply wq_no_u; rfl; rfl; rfl)
      | (refine wq_guard rfl rfl (fun hc => ?_) (fun hc => ?_) <;> (first | (exfalso; contradiction) | ((try simp only [decide_eq_true_eq, decide_eq_false_iff_not, beq_iff_eq, bne_iff_ne, beq_eq_false_iff_ne, bne_eq_false_iff_eq, ne_eq, Decidable.not_not, Bool.not_eq_true', Bool.not_eq_false', Int.not_lt, Int.not_le] at hc); first | (exfalso; omega) | (exfalso; revert hc; decide) | skip)))
      | (with_reducible refine wq_nil ?_)))
       all_goals (simp only [resV]; congr 1; rw [← he]; unfold qErr; rw [hk]; (repeat split) <;> first | rfl | omega))
  · obtain ⟨u, hu⟩ : ∃ u, l[(f - first).toNat]? = some u := ⟨_, List.getElem?_eq_getElem (by omega)⟩
    have hg : l.getD (f - first).toNat 0 = u := by simp [List.getD, hu]
    rcases hV.2 with ⟨hs, hn, rfl⟩ | ⟨g, cap', r, hs, hcap, _, _, rfl⟩
    · exfalso; omega
    · cases hs
      have hcell : (u8s l ++ r)[(f - first).toNat]? = some (.int .u8 u) := by
        rw [List.getElem?_append_left (by simp; omega)]
        simp [u8s, hu]
      generalize hk : l.length = k at *
      refine sp_of_wc Try.func10 rfl Try.ntmps10 rfl rfl (fun w0 hR => ?_)
      repeat' (first
    | ((with_reducible (apply wl_id)); first
      | (apply wl_arith tt_ok; rfl; rfl; (first | ((with_reducible refine fit_div_i64 ?_ ?_) <;> omega) | ((with_reducible refine fit_div_i32 ?_ ?_) <;> omega) | ((with_reducible refine fit_div_u64 ?_ ?_) <;> omega) | ((with_reducible refine fit_i64 ?_); omega) | ((with_reducible refine fit_i32 ?_); omega) | ((with_reducible refine fit_u64 ?_); omega) | ((with_reducible refine fit_u8 ?_); omega) | ((with_reducible refine fit_u32 ?_); omega) | ((with_reducible refine fit_u16 ?_); omega) | rfl); rfl)
      | (apply wl_boolish tt_ok; rfl; rfl; (first | (with_reducible first | exact bb_not_t | exact bb_not_f | exact bb_eq_t _ | exact bb_eq_f _ | exact bb_t_eq _ | exact bb_f_eq _ | exact bb_ne_t _ | exact bb_ne_f _ | exact bb_t_ne _ | exact bb_f_ne _ | exact bb_same _ | exact bb_nsame _ | exact bi_same _ | exact bi_nsame _) | rfl); rfl)
      | (refine wl_pure tt_ok rfl rfl ?_)
      | (apply wl_load tt_ok; rfl; (repeat (first | exact List.Mem.head _ | apply List.Mem.tail)); rfl; rfl)
      | (first | (apply wl_rd Try.call9; rfl; rfl; rfl; exact sub_keeps (ps := [0]) rfl; exact qKnown _ _ _ _ _ _ (by omega) (by omega); rfl))
      | (first | (apply wl_rd Try.call18; rfl; rfl; rfl; exact sub_keeps (ps := [0, 0]) rfl; exact qAtIn _ _ _ _ _ _ _ _ _ _ (by omega) (by omega) (by omega) (by omega) (by omega) hcell; rfl))
      | (refine wl_pf Try.call27 rfl rfl rfl (legal_any _) (fun _ _ => trivial) rfl ?_)
      | (apply wl_store tt_ok; rfl; (repeat (first | exact Upd.here | apply Upd.there)); rfl; rfl; rfl; rfl; rfl; rfl)
      | (refine wl_box rfl rfl rfl (fun _ => ?_))
      | (apply wl_build1 tt_ok; rfl; rfl; rfl; rfl; rfl; intro _)
      | (refine wl_alloc tt_ok rfl rfl (fun _ => ?_))
      | (apply wl_yes; rfl; rfl; (with_reducible rfl))
      | (apply wl_no_t; rfl; rfl; (with_reducible rfl); rfl)
      | (apply wl_no_f; rfl; rfl; (with_reducible rfl); rfl)
      | (apply wl_no_u; rfl; rfl; rfl)
      | (refine wl_guard rfl rfl (fun hc => ?_) (fun hc => ?_) <;> (first | (exfalso; contradiction) | ((try simp only [decide_eq_true_eq, decide_eq_false_iff_not, beq_iff_eq, bne_iff_ne, beq_eq_false_iff_ne, bne_eq_false_iff_eq, ne_eq, Decidable.not_not, Bool.not_eq_true', Bool.not_eq_false', Int.not_lt, Int.not_le] at hc); first | (exfalso; omega) | (exfalso; revert hc; decide) | skip)))
      | (with_reducible refine wl_nil ?_))
    | ((with_reducible (apply wc_id)); first
      | (with_reducible refine wc_seq ?_)
      | (with_reducible refine wc_region ?_)
      | (with_reducible refine wc_ret ?_)
      | (refine wc_cond rfl (fun hc => ?_) (fun hc => ?_) <;> (first | (exfalso; contradiction) | ((try simp only [decide_eq_true_eq, decide_eq_false_iff_not, beq_iff_eq, bne_iff_ne, beq_eq_false_iff_ne, bne_eq_false_iff_eq, ne_eq, Decidable.not_not, Bool.not_eq_true', Bool.not_eq_false', Int.not_lt, Int.not_le] at hc); first | (exfalso; omega) | (exfalso; revert hc; decide) | skip)))
      | (with_reducible refine wc_block ?_)
      | (with_reducible refine wc_skip ?_)
      | (with_reducible refine wc_exit ?_)
      | (with_reducible refine wc_quiet (by kernel_rfl) (by kernel_rfl) ?_))
    | ((with_reducible (apply wx_id)); first
      | (with_reducible refine wx_then ?_)
      | (with_reducible refine wx_block ?_)
      | (with_reducible refine wx_block_exit ?_)
      | (with_reducible refine wx_block_other (by rfl) ?_)
      | (with_reducible refine wx_block_ret ?_)
      | (with_reducible refine wx_then_exit ?_)
      | (with_reducible refine wx_then_ret ?_)
      | ((with_reducible (apply wx_pf tt_ok)); (first | exact .inl rfl | exact .inr rfl); (first | exact Try.results10 | rfl); (repeat (first | exact Res.nil | (apply Res.tmp; rfl) | (apply Res.cell; rfl; (repeat (first | exact List.Mem.head _ | apply List.Mem.tail)); rfl))))
      | ((with_reducible (apply wx_rd tt_ok)); (first | exact .inl rfl | exact .inr rfl); (first | exact Try.results10 | rfl); (repeat (first | exact Res.nil | (apply Res.tmp; rfl) | (apply Res.cell; rfl; (repeat (first | exact List.Mem.head _ | apply List.Mem.tail)); rfl))); (first | exact sub_refl | exact sub_drop1 | exact sub_drop2 | exact sub_keeps (ps := [0]) rfl | exact sub_keeps (ps := [1]) rfl | exact sub_keeps (ps := [2]) rfl | exact sub_keeps (ps := [3]) rfl | exact sub_keeps (ps := [0, 0]) rfl | exact sub_keeps (ps := [1, 0]) rfl | exact sub_keeps (ps := [1, 1]) rfl | exact sub_keeps (ps := [0, 1]) rfl | exact sub_keeps (ps := [2, 0]) rfl | exact sub_keeps (ps := [0, 2]) rfl | exact sub_keeps (ps := [2, 1]) rfl | exact sub_keeps (ps := [1, 2]) rfl | exact sub_keeps (ps := [2, 2]) rfl); (first | rfl | skip)))
    | ((with_reducible (apply wq_id)); first
      | (apply wq_arith tt_ok; rfl; rfl; (first | ((with_reducible refine fit_div_i64 ?_ ?_) <;> omega) | ((with_reducible refine fit_div_i32 ?_ ?_) <;> omega) | ((with_reducible refine fit_div_u64 ?_ ?_) <;> omega) | ((with_reducible refine fit_i64 ?_); omega) | ((with_reducible refine fit_i32 ?_); omega) | ((with_reducible refine fit_u64 ?_); omega) | ((with_reducible refine fit_u8 ?_); omega) | ((with_reducible refine fit_u32 ?_); omega) | ((with_reducible refine fit_u16 ?_); omega) | rfl); rfl)
      | (apply wq_boolish tt_ok; rfl; rfl; (first | (with_reducible first | exact bb_not_t | exact bb_not_f | exact bb_eq_t _ | exact bb_eq_f _ | exact bb_t_eq _ | exact bb_f_eq _ | exact bb_ne_t _ | exact bb_ne_f _ | exact bb_t_ne _ | exact bb_f_ne _ | exact bb_same _ | exact bb_nsame _ | exact bi_same _ | exact bi_nsame _) | rfl); rfl)
      | (refine wq_pure tt_ok rfl rfl ?_)
      | (apply wq_load tt_ok; rfl; (repeat (first | exact List.Mem.head _ | apply List.Mem.tail)); rfl; rfl)
      | (first | (apply wl_rd Try.call9; rfl; rfl; rfl; exact sub_keeps (ps := [0]) rfl; exact qKnown _ _ _ _ _ _ (by omega) (by omega); rfl))
      | (first | (apply wl_rd Try.call18; rfl; rfl; rfl; exact sub_keeps (ps := [0, 0]) rfl; exact qAtIn _ _ _ _ _ _ _ _ _ _ (by omega) (by omega) (by omega) (by omega) (by omega) hcell; rfl))
      | (refine wq_pf Try.call27 rfl rfl rfl (legal_any _) (fun _ _ => trivial) rfl ?_)
      | (apply wq_yes; rfl; rfl; (with_reducible rfl))
      | (apply wq_no_t; rfl; rfl; (with_reducible rfl); rfl)
      | (apply wq_no_f; rfl; rfl; (with_reducible rfl); rfl)
      | (apply wq_no_u; rfl; rfl; rfl)
      | (refine wq_guard rfl rfl (fun hc => ?_) (fun hc => ?_) <;> (first | (exfalso; contradiction) | ((try simp only [decide_eq_true_eq, decide_eq_false_iff_not, beq_iff_eq, bne_iff_ne, beq_eq_false_iff_ne, bne_eq_false_iff_eq, ne_eq, Decidable.not_not, Bool.not_eq_true', Bool.not_eq_false', Int.not_lt, Int.not_le] at hc); first | (exfalso; omega) | (exfalso; revert hc; decide) | skip)))
      | (with_reducible refine wq_nil ?_)))
      all_goals (simp only [resV]; congr 1; rw [← he]; unfold qErr; rw [hk, hg]; (repeat split) <;> first | rfl | omega)

theorem qAddGrow (b : Nat) (f first last i : Int) (l : List Int) (a : Option Addr) (cap : Nat) (B : List Blk) (hV : Vec 31 1 (.slice a l.length cap) l.length (u8s l) B) (h1 : U64 first)
    (hi : 0 ≤ i ∧ i < 64) (hf : f = first + l.length) (htop : f < 18446744073709551615) (hn : l.length < 24) :
    Sp Try.prog 10 [.pointer (some ⟨b, 0, none⟩), .int .u64 f, .int .u8 i] (QB b first (.slice a l.length cap) last :: B) (fun _ => True)
      (fun v L' => v = .int .i64 0 ∧ ∃ a' cap' B', Vec 31 1 (.slice a' (l ++ [i]).length cap') (l ++ [i]).length (u8s (l ++ [i])) B' ∧ L' = QB b first (.slice a' (l ++ [i]).length cap') i :: B') := by
  have e1 : (l ++ [i]).length = l.length + 1 := by simp
  have e2 : u8s (l ++ [i]) = u8s l ++ [.int .u8 i] := by simp [u8s]
  rw [e1, e2]
  subst hf
  generalize hx : u8s l = xs at *
  clear e1 e2 hx
  generalize l.length = k at *
  have hk : 0 + k = k := by omega
  have hV0 := hV
  rcases hV.2 with ⟨hs, hn, rfl⟩ | ⟨g, cap', r, hs, hcap, _, _, rfl⟩
  · skip
    refine sp_of_wc Try.func10 rfl Try.ntmps10 rfl rfl (fun w0 hR => ?_)
    repeat' (first
    | ((with_reducible (apply wl_id)); first
      | (apply wl_arith tt_ok; rfl; rfl; (first | ((with_reducible refine fit_div_i64 ?_ ?_) <;> omega) | ((with_reducible refine fit_div_i32 ?_ ?_) <;> omega) | ((with_reducible refine fit_div_u64 ?_ ?_) <;> omega) | ((with_reducible refine fit_i64 ?_); omega) | ((with_reducible refine fit_i32 ?_); omega) | ((with_reducible refine fit_u64 ?_); omega) | ((with_reducible refine fit_u8 ?_); omega) | ((with_reducible refine fit_u32 ?_); omega) | ((with_reducible refine fit_u16 ?_); omega) | rfl); rfl)
      | (apply wl_boolish tt_ok; rfl; rfl; (first | (with_reducible first | exact bb_not_t | exact bb_not_f | exact bb_eq_t _ | exact bb_eq_f _ | exact bb_t_eq _ | exact bb_f_eq _ | exact bb_ne_t _ | exact bb_ne_f _ | exact bb_t_ne _ | exact bb_f_ne _ | exact bb_same _ | exact bb_nsame _ | exact bi_same _ | exact bi_nsame _) | rfl); rfl)
      | (refine wl_pure tt_ok rfl rfl ?_)
      | (apply wl_load tt_ok; rfl; (repeat (first | exact List.Mem.head _ | apply List.Mem.tail)); rfl; rfl)
      | (first | (apply wl_rd Try.call9; rfl; rfl; rfl; exact sub_keeps (ps := [0]) rfl; exact qKnown _ _ _ _ _ _ (by omega) (by omega); rfl))
      | (first | (apply wl_rd Try.call18; rfl; rfl; rfl; exact sub_keeps (ps := [0]) rfl; exact qAtOut _ _ _ _ _ _ _ (by omega) (by omega) (by omega) (by omega); rfl))
      | (refine wl_pf Try.call27 rfl rfl rfl (legal_any _) (fun _ _ => trivial) rfl ?_)
      | (apply wl_append1 tt_ok; rfl; rfl; rfl; rfl; (repeat (first | exact List.Mem.head _ | apply List.Mem.tail)); rfl; rfl; decide; exact hV0; exact List.Perm.refl _; (first | decide | (simp only [maxLen]; omega)); (first | decide | omega); rfl; rintro _ _ _ hV1)
      | (apply wl_store tt_ok; rfl; (repeat (first | exact Upd.here | apply Upd.there)); rfl; rfl; rfl; rfl; rfl; rfl)
      | (refine wl_box rfl rfl rfl (fun _ => ?_))
      | (apply wl_build1 tt_ok; rfl; rfl; rfl; rfl; rfl; intro _)
      | (refine wl_alloc tt_ok rfl rfl (fun _ => ?_))
      | (apply wl_yes; rfl; rfl; (with_reducible rfl))
      | (apply wl_no_t; rfl; rfl; (with_reducible rfl); rfl)
      | (apply wl_no_f; rfl; rfl; (with_reducible rfl); rfl)
      | (apply wl_no_u; rfl; rfl; rfl)
      | (refine wl_guard rfl rfl (fun hc => ?_) (fun hc => ?_) <;> (first | (exfalso; contradiction) | ((try simp only [decide_eq_true_eq, decide_eq_false_iff_not, beq_iff_eq, bne_iff_ne, beq_eq_false_iff_ne, bne_eq_false_iff_eq, ne_eq, Decidable.not_not, Bool.not_eq_true', Bool.not_eq_false', Int.not_lt, Int.not_le] at hc); first | (exfalso; omega) | (exfalso; revert hc; decide) | skip)))
      | (with_reducible refine wl_nil ?_))
    | ((with_reducible (apply wc_id)); first
      | (with_reducible refine wc_seq ?_)
      | (with_reducible refine wc_region ?_)
      | (with_reducible refine wc_ret ?_)
      | (refine wc_cond rfl (fun hc => ?_) (fun hc => ?_) <;> (first | (exfalso; contradiction) | ((try simp only [decide_eq_true_eq, decide_eq_false_iff_not, beq_iff_eq, bne_iff_ne, beq_eq_false_iff_ne, bne_eq_false_iff_eq, ne_eq, Decidable.not_not, Bool.not_eq_true', Bool.not_eq_false', Int.not_lt, Int.not_le] at hc); first | (exfalso; omega) | (exfalso; revert hc; decide) | skip)))
      | (with_reducible refine wc_block ?_)
      | (with_reducible refine wc_skip ?_)
      | (with_reducible refine wc_exit ?_)
      | (with_reducible refine wc_quiet (by kernel_rfl) (by kernel_rfl) ?_))
    | ((with_reducible (apply wx_id)); first
      | (with_reducible refine wx_then ?_)
      | (with_reducible refine wx_block ?_)
      | (with_reducible refine wx_block_exit ?_)
      | (with_reducible refine wx_block_other (by rfl) ?_)
      | (with_reducible refine wx_block_ret ?_)
      | (with_reducible refine wx_then_exit ?_)
      | (with_reducible refine wx_then_ret ?_)
      | ((with_reducible (apply wx_pf tt_ok)); (first | exact .inl rfl | exact .inr rfl); (first | exact Try.results10 | rfl); (repeat (first | exact Res.nil | (apply Res.tmp; rfl) | (apply Res.cell; rfl; (repeat (first | exact List.Mem.head _ | apply List.Mem.tail)); rfl))))
      | ((with_reducible (apply wx_rd tt_ok)); (first | exact .inl rfl | exact .inr rfl); (first | exact Try.results10 | rfl); (repeat (first | exact Res.nil | (apply Res.tmp; rfl) | (apply Res.cell; rfl; (repeat (first | exact List.Mem.head _ | apply List.Mem.tail)); rfl))); (first | exact sub_refl | exact sub_drop1 | exact sub_drop2 | exact sub_keeps (ps := [0]) rfl | exact sub_keeps (ps := [1]) rfl | exact sub_keeps (ps := [2]) rfl | exact sub_keeps (ps := [3]) rfl | exact sub_keeps (ps := [0, 0]) rfl | exact sub_keeps (ps := [1, 0]) rfl | exact sub_keeps (ps := [1, 1]) rfl | exact sub_keeps (ps := [0, 1]) rfl | exact sub_keeps (ps := [2, 0]) rfl | exact sub_keeps (ps := [0, 2]) rfl | exact sub_keeps (ps := [2, 1]) rfl | exact sub_keeps (ps := [1, 2]) rfl | exact sub_keeps (ps := [2, 2]) rfl); (first | rfl | skip))
      | ((with_reducible (apply wx_sp tt_ok)); (first | exact .inl rfl | exact .inr rfl); (first | exact Try.results10 | rfl); (repeat (first | exact Res.nil | (apply Res.tmp; rfl) | (apply Res.cell; rfl; (repeat (first | exact List.Mem.head _ | apply List.Mem.tail)); rfl))); rotate_left; exact ⟨rfl, _, _, _, hV1, rfl⟩; (first | exact sub_refl | exact sub_drop1 | exact sub_drop2 | exact sub_keeps (ps := [0]) rfl | exact sub_keeps (ps := [1]) rfl | exact sub_keeps (ps := [2]) rfl | exact sub_keeps (ps := [3]) rfl | exact sub_keeps (ps := [0, 0]) rfl | exact sub_keeps (ps := [1, 0]) rfl | exact sub_keeps (ps := [1, 1]) rfl | exact sub_keeps (ps := [0, 1]) rfl | exact sub_keeps (ps := [2, 0]) rfl | exact sub_keeps (ps := [0, 2]) rfl | exact sub_keeps (ps := [2, 1]) rfl | exact sub_keeps (ps := [1, 2]) rfl | exact sub_keeps (ps := [2, 2]) rfl)))
    | ((with_reducible (apply wq_id)); first
      | (apply wq_arith tt_ok; rfl; rfl; (first | ((with_reducible refine fit_div_i64 ?_ ?_) <;> omega) | ((with_reducible refine fit_div_i32 ?_ ?_) <;> omega) | ((with_reducible refine fit_div_u64 ?_ ?_) <;> omega) | ((with_reducible refine fit_i64 ?_); omega) | ((with_reducible refine fit_i32 ?_); omega) | ((with_reducible refine fit_u64 ?_); omega) | ((with_reducible refine fit_u8 ?_); omega) | ((with_reducible refine fit_u32 ?_); omega) | ((with_reducible refine fit_u16 ?_); omega) | rfl); rfl)
      | (apply wq_boolish tt_ok; rfl; rfl; (first | (with_reducible first | exact bb_not_t | exact bb_not_f | exact bb_eq_t _ | exact bb_eq_f _ | exact bb_t_eq _ | exact bb_f_eq _ | exact bb_ne_t _ | exact bb_ne_f _ | exact bb_t_ne _ | exact bb_f_ne _ | exact bb_same _ | exact bb_nsame _ | exact bi_same _ | exact bi_nsame _) | rfl); rfl)
      | (refine wq_pure tt_ok rfl rfl ?_)
      | (apply wq_load tt_ok; rfl; (repeat (first | exact List.Mem.head _ | apply List.Mem.tail)); rfl; rfl)
      | (first | (apply wl_rd Try.call9; rfl; rfl; rfl; exact sub_keeps (ps := [0]) rfl; exact qKnown _ _ _ _ _ _ (by omega) (by omega); rfl))
      | (first | (apply wl_rd Try.call18; rfl; rfl; rfl; exact sub_keeps (ps := [0]) rfl; exact qAtOut _ _ _ _ _ _ _ (by omega) (by omega) (by omega) (by omega); rfl))
      | (refine wq_pf Try.call27 rfl rfl rfl (legal_any _) (fun _ _ => trivial) rfl ?_)
      | (apply wl_append1 tt_ok; rfl; rfl; rfl; rfl; (repeat (first | exact List.Mem.head _ | apply List.Mem.tail)); rfl; rfl; decide; exact hV0; exact List.Perm.refl _; (first | decide | (simp only [maxLen]; omega)); (first | decide | omega); rfl; rintro _ _ _ hV1)
      | (apply wq_yes; rfl; rfl; (with_reducible rfl))
      | (apply wq_no_t; rfl; rfl; (with_reducible rfl); rfl)
      | (apply wq_no_f; rfl; rfl; (with_reducible rfl); rfl)
      | (apply wq_no_u; rfl; rfl; rfl)
      | (refine wq_guard rfl rfl (fun hc => ?_) (fun hc => ?_) <;> (first | (exfalso; contradiction) | ((try simp only [decide_eq_true_eq, decide_eq_false_iff_not, beq_iff_eq, bne_iff_ne, beq_eq_false_iff_ne, bne_eq_false_iff_eq, ne_eq, Decidable.not_not, Bool.not_eq_true', Bool.not_eq_false', Int.not_lt, Int.not_le] at hc); first | (exfalso; omega) | (exfalso; revert hc; decide) | skip)))
      | (with_reducible refine wq_nil ?_)))
  · cases hs
    refine sp_of_wc Try.func10 rfl Try.ntmps10 rfl rfl (fun w0 hR => ?_)
    repeat' (first
    | ((with_reducible (apply wl_id)); first
      | (apply wl_arith tt_ok; rfl; rfl; (first | ((with_reducible refine fit_div_i64 ?_ ?_) <;> omega) | ((with_reducible refine fit_div_i32 ?_ ?_) <;> omega) | ((with_reducible refine fit_div_u64 ?_ ?_) <;> omega) | ((with_reducible refine fit_i64 ?_); omega) | ((with_reducible refine fit_i32 ?_); omega) | ((with_reducible refine fit_u64 ?_); omega) | ((with_reducible refine fit_u8 ?_); omega) | ((with_reducible refine fit_u32 ?_); omega) | ((with_reducible refine fit_u16 ?_); omega) | rfl); rfl)
      | (apply wl_boolish tt_ok; rfl; rfl; (first | (with_reducible first | exact bb_not_t | exact bb_not_f | exact bb_eq_t _ | exact bb_eq_f _ | exact bb_t_eq _ | exact bb_f_eq _ | exact bb_ne_t _ | exact bb_ne_f _ | exact bb_t_ne _ | exact bb_f_ne _ | exact bb_same _ | exact bb_nsame _ | exact bi_same _ | exact bi_nsame _) | rfl); rfl)
      | (refine wl_pure tt_ok rfl rfl ?_)
      | (apply wl_load tt_ok; rfl; (repeat (first | exact List.Mem.head _ | apply List.Mem.tail)); rfl; rfl)
      | (first | (apply wl_rd Try.call9; rfl; rfl; rfl; exact sub_keeps (ps := [0]) rfl; exact qKnown _ _ _ _ _ _ (by omega) (by omega); rfl))
      | (first | (apply wl_rd Try.call18; rfl; rfl; rfl; exact sub_keeps (ps := [0]) rfl; exact qAtOut _ _ _ _ _ _ _ (by omega) (by omega) (by omega) (by omega); rfl))
      | (refine wl_pf Try.call27 rfl rfl rfl (legal_any _) (fun _ _ => trivial) rfl ?_)
      | (apply wl_append1 tt_ok; rfl; rfl; rfl; rfl; (repeat (first | exact List.Mem.head _ | apply List.Mem.tail)); rfl; rfl; decide; exact hV0; exact (pick_perm (i := 2) rfl); (first | decide | (simp only [maxLen]; omega)); (first | decide | omega); rfl; rintro _ _ _ hV1)
      | (apply wl_store tt_ok; rfl; (repeat (first | exact Upd.here | apply Upd.there)); rfl; rfl; rfl; rfl; rfl; rfl)
      | (refine wl_box rfl rfl rfl (fun _ => ?_))
      | (apply wl_build1 tt_ok; rfl; rfl; rfl; rfl; rfl; intro _)
      | (refine wl_alloc tt_ok rfl rfl (fun _ => ?_))
      | (apply wl_yes; rfl; rfl; (with_reducible rfl))
      | (apply wl_no_t; rfl; rfl; (with_reducible rfl); rfl)
      | (apply wl_no_f; rfl; rfl; (with_reducible rfl); rfl)
      | (apply wl_no_u; rfl; rfl; rfl)
      | (refine wl_guard rfl rfl (fun hc => ?_) (fun hc => ?_) <;> (first | (exfalso; contradiction) | ((try simp only [decide_eq_true_eq, decide_eq_false_iff_not, beq_iff_eq, bne_iff_ne, beq_eq_false_iff_ne, bne_eq_false_iff_eq, ne_eq, Decidable.not_not, Bool.not_eq_true', Bool.not_eq_false', Int.not_lt, Int.not_le] at hc); first | (exfalso; omega) | (exfalso; revert hc; decide) | skip)))
      | (with_reducible refine wl_nil ?_))
    | ((with_reducible (apply wc_id)); first
      | (with_reducible refine wc_seq ?_)
      | (with_reducible refine wc_region ?_)
      | (with_reducible refine wc_ret ?_)
      | (refine wc_cond rfl (fun hc => ?_) (fun hc => ?_) <;> (first | (exfalso; contradiction) | ((try simp only [decide_eq_true_eq, decide_eq_false_iff_not, beq_iff_eq, bne_iff_ne, beq_eq_false_iff_ne, bne_eq_false_iff_eq, ne_eq, Decidable.not_not, Bool.not_eq_true', Bool.not_eq_false', Int.not_lt, Int.not_le] at hc); first | (exfalso; omega) | (exfalso; revert hc; decide) | skip)))
      | (with_reducible refine wc_block ?_)
      | (with_reducible refine wc_skip ?_)
      | (with_reducible refine wc_exit ?_)
      | (with_reducible refine wc_quiet (by kernel_rfl) (by kernel_rfl) ?_))
    | ((with_reducible (apply wx_id)); first
      | (with_reducible refine wx_then ?_)
      | (with_reducible refine wx_block ?_)
      | (with_reducible refine wx_block_exit ?_)
      | (with_reducible refine wx_block_other (by rfl) ?_)
      | (with_reducible refine wx_block_ret ?_)
      | (with_reducible refine wx_then_exit ?_)
      | (with_reducible refine wx_then_ret ?_)
      | ((with_reducible (apply wx_pf tt_ok)); (first | exact .inl rfl | exact .inr rfl); (first | exact Try.results10 | rfl); (repeat (first | exact Res.nil | (apply Res.tmp; rfl) | (apply Res.cell; rfl; (repeat (first | exact List.Mem.head _ | apply List.Mem.tail)); rfl))))
      | ((with_reducible (apply wx_rd tt_ok)); (first | exact .inl rfl | exact .inr rfl); (first | exact Try.results10 | rfl); (repeat (first | exact Res.nil | (apply Res.tmp; rfl) | (apply Res.cell; rfl; (repeat (first | exact List.Mem.head _ | apply List.Mem.tail)); rfl))); (first | exact sub_refl | exact sub_drop1 | exact sub_drop2 | exact sub_keeps (ps := [0]) rfl | exact sub_keeps (ps := [1]) rfl | exact sub_keeps (ps := [2]) rfl | exact sub_keeps (ps := [3]) rfl | exact sub_keeps (ps := [0, 0]) rfl | exact sub_keeps (ps := [1, 0]) rfl | exact sub_keeps (ps := [1, 1]) rfl | exact sub_keeps (ps := [0, 1]) rfl | exact sub_keeps (ps := [2, 0]) rfl | exact sub_keeps (ps := [0, 2]) rfl | exact sub_keeps (ps := [2, 1]) rfl | exact sub_keeps (ps := [1, 2]) rfl | exact sub_keeps (ps := [2, 2]) rfl); (first | rfl | skip))
      | ((with_reducible (apply wx_sp tt_ok)); (first | exact .inl rfl | exact .inr rfl); (first | exact Try.results10 | rfl); (repeat (first | exact Res.nil | (apply Res.tmp; rfl) | (apply Res.cell; rfl; (repeat (first | exact List.Mem.head _ | apply List.Mem.tail)); rfl))); rotate_left; exact ⟨rfl, _, _, _, hV1, rfl⟩; (first | exact sub_refl | exact sub_drop1 | exact sub_drop2 | exact sub_keeps (ps := [0]) rfl | exact sub_keeps (ps := [1]) rfl | exact sub_keeps (ps := [2]) rfl | exact sub_keeps (ps := [3]) rfl | exact sub_keeps (ps := [0, 0]) rfl | exact sub_keeps (ps := [1, 0]) rfl | exact sub_keeps (ps := [1, 1]) rfl | exact sub_keeps (ps := [0, 1]) rfl | exact sub_keeps (ps := [2, 0]) rfl | exact sub_keeps (ps := [0, 2]) rfl | exact sub_keeps (ps := [2, 1]) rfl | exact sub_keeps (ps := [1, 2]) rfl | exact sub_keeps (ps := [2, 2]) rfl)))
    | ((with_reducible (apply wq_id)); first
      | (apply wq_arith tt_ok; rfl; rfl; (first | ((with_reducible refine fit_div_i64 ?_ ?_) <;> omega) | ((with_reducible refine fit_div_i32 ?_ ?_) <;> omega) | ((with_reducible refine fit_div_u64 ?_ ?_) <;> omega) | ((with_reducible refine fit_i64 ?_); omega) | ((with_reducible refine fit_i32 ?_); omega) | ((with_reducible refine fit_u64 ?_); omega) | ((with_reducible refine fit_u8 ?_); omega) | ((with_reducible refine fit_u32 ?_); omega) | ((with_reducible refine fit_u16 ?_); omega) | rfl); rfl)
      | (apply wq_boolish tt_ok; rfl; rfl; (first | (with_reducible first | exact bb_not_t | exact bb_not_f | exact bb_eq_t _ | exact bb_eq_f _ | exact bb_t_eq _ | exact bb_f_eq _ | exact bb_ne_t _ | exact bb_ne_f _ | exact bb_t_ne _ | exact bb_f_ne _ | exact bb_same _ | exact bb_nsame _ | exact bi_same _ | exact bi_nsame _) | rfl); rfl)
      | (refine wq_pure tt_ok rfl rfl ?_)
      | (apply wq_load tt_ok; rfl; (repeat (first | exact List.Mem.head _ | apply List.Mem.tail)); rfl; rfl)
      | (first | (apply wl_rd Try.call9; rfl; rfl; rfl; exact sub_keeps (ps := [0]) rfl; exact qKnown _ _ _ _ _ _ (by omega) (by omega); rfl))
      | (first | (apply wl_rd Try.call18; rfl; rfl; rfl; exact sub_keeps (ps := [0]) rfl; exact qAtOut _ _ _ _ _ _ _ (by omega) (by omega) (by omega) (by omega); rfl))
      | (refine wq_pf Try.call27 rfl rfl rfl (legal_any _) (fun _ _ => trivial) rfl ?_)
      | (apply wl_append1 tt_ok; rfl; rfl; rfl; rfl; (repeat (first | exact List.Mem.head _ | apply List.Mem.tail)); rfl; rfl; decide; exact hV0; exact (pick_perm (i := 2) rfl); (first | decide | (simp only [maxLen]; omega)); (first | decide | omega); rfl; rintro _ _ _ hV1)
      | (apply wq_yes; rfl; rfl; (with_reducible rfl))
      | (apply wq_no_t; rfl; rfl; (with_reducible rfl); rfl)
      | (apply wq_no_f; rfl; rfl; (with_reducible rfl); rfl)
      | (apply wq_no_u; rfl; rfl; rfl)
      | (refine wq_guard rfl rfl (fun hc => ?_) (fun hc => ?_) <;> (first | (exfalso; contradiction) | ((try simp only [decide_eq_true_eq, decide_eq_false_iff_not, beq_iff_eq, bne_iff_ne, beq_eq_false_iff_ne, bne_eq_false_iff_eq, ne_eq, Decidable.not_not, Bool.not_eq_true', Bool.not_eq_false', Int.not_lt, Int.not_le] at hc); first | (exfalso; omega) | (exfalso; revert hc; decide) | skip)))
      | (with_reducible refine wq_nil ?_)))

theorem spMono {P : Program} {f : FuncId} {args : List Value} {pre : List Blk} {R : World → Prop} {S S' : Value → List Blk → Prop} (h : Sp P f args pre R S) (hS : ∀ v L', S v L' → S' v L') : Sp P f args pre R S' := by
  unfold Sp at *
  intro w hI hR
  exact (h w hI hR).mono fun e w' ⟨v, L', h1, h2, h3⟩ => ⟨v, L', h1, h2, hS _ _ h3⟩

/-- The queue's state (what it knows, the last input) lies in L. -/
def QSt (b : Nat) (first : Int) (s : List Int × Int) (L : List Blk) : Prop :=
  ∃ a cap B, Vec 31 1 (.slice a s.1.length cap) s.1.length (u8s s.1) B ∧ L = QB b first (.slice a s.1.length cap) s.2 :: B

def qNext (first : Int) (s : List Int × Int) (f i : Int) : List Int × Int :=
  if i < 64 ∧ f = first + s.1.length ∧ f ≠ 18446744073709551615 ∧ s.1.length < 24 then (s.1 ++ [i], i) else s

theorem qAdd (b : Nat) (f first i : Int) (s : List Int × Int) (pre : List Blk) (hQ : QSt b first s pre) (h1 : U64 first) (h2 : first + s.1.length ≤ 18446744073709551615) (hf : U64 f) (hi : 0 ≤ i ∧ i ≤ 255) :
    Sp Try.prog 10 [.pointer (some ⟨b, 0, none⟩), .int .u64 f, .int .u8 i] pre (fun _ => True)
      (fun v L' => v = .int .i64 (qErr first s.1 f i) ∧ QSt b first (qNext first s f i) L') := by
  obtain ⟨l, last⟩ := s
  obtain ⟨a, cap, B, hV, rfl⟩ := hQ
  simp only at *
  by_cases hg : i < 64 ∧ f = first + l.length ∧ f ≠ 18446744073709551615 ∧ l.length < 24
  · have e1 : qErr first l f i = 0 := by unfold qErr; (repeat split) <;> omega
    have e2 : qNext first (l, last) f i = (l ++ [i], i) := by unfold qNext; rw [if_pos hg]
    rw [e1, e2]
    exact spMono (qAddGrow b f first last i l a cap B hV h1 ⟨hi.1, hg.1⟩ hg.2.1 (by omega) hg.2.2.2) fun v L' ⟨h3, h4⟩ => ⟨h3, h4⟩
  · have e2 : qNext first (l, last) f i = (l, last) := by unfold qNext; rw [if_neg hg]
    rw [e2]
    exact spMono (qAddNot b f first last i l a cap B hV h1 h2 hf hi hg) fun v L' ⟨h3, h4⟩ => ⟨h3, _, _, _, hV, h4⟩

def qIn (first : Int) (l : List Int) (f : Int) : Bool := decide (first ≤ f ∧ f < first + l.length)
def qVal (first : Int) (l : List Int) (f : Int) : Int := if first ≤ f ∧ f < first + l.length then l.getD (f - first).toNat 0 else 0

theorem qAt (b : Nat) (f first : Int) (s : List Int × Int) (pre : List Blk) (hQ : QSt b first s pre) (h1 : U64 first) (h2 : first + s.1.length ≤ 18446744073709551615) (hf : U64 f) :
    Rd Try.prog 18 [.pointer (some ⟨b, 0, none⟩), .int .u64 f] pre (.tuple #[.int .u8 (qVal first s.1 f), .bool (qIn first s.1 f)]) := by
  obtain ⟨l, last⟩ := s
  obtain ⟨a, cap, B, hV, rfl⟩ := hQ
  simp only at *
  unfold qIn qVal
  by_cases ho : first ≤ f ∧ f < first + l.length
  · rw [if_pos ho, decide_eq_true ho]
    rcases hV.2 with ⟨hs, hn, rfl⟩ | ⟨g, cap', r, hs, hcap, _, _, rfl⟩
    · exfalso; omega
    · cases hs
      have hcell : (u8s l ++ r)[(f - first).toNat]? = some (.int .u8 (l.getD (f - first).toNat 0)) := by
        rw [List.getElem?_append_left (by simp; omega)]
        simp [u8s, List.getD, List.getElem?_eq_getElem (show (f - first).toNat < l.length by omega)]
      exact qAtIn _ _ _ _ _ _ _ _ _ _ h1 h2 hcap hf ho hcell
  · rw [if_neg ho, decide_eq_false ho]
    rcases hV.2 with ⟨hs, hn, rfl⟩ | ⟨g, cap', r, hs, hcap, _, _, rfl⟩
    · exact qAtOut _ _ _ _ _ _ _ h1 h2 hf (by omega)
    · generalize hk : l.length = k at *
      cases hs
      refine sp_of_wc Try.func18 rfl Try.ntmps18 rfl rfl (fun w0 hR => ?_)
      repeat' (first
    | ((with_reducible (apply wl_id)); first
      | (apply wl_arith tt_ok; rfl; rfl; (first | ((with_reducible refine fit_div_i64 ?_ ?_) <;> omega) | ((with_reducible refine fit_div_i32 ?_ ?_) <;> omega) | ((with_reducible refine fit_div_u64 ?_ ?_) <;> omega) | ((with_reducible refine fit_i64 ?_); omega) | ((with_reducible refine fit_i32 ?_); omega) | ((with_reducible refine fit_u64 ?_); omega) | ((with_reducible refine fit_u8 ?_); omega) | ((with_reducible refine fit_u32 ?_); omega) | ((with_reducible refine fit_u16 ?_); omega) | rfl); rfl)
      | (apply wl_boolish tt_ok; rfl; rfl; (first | (with_reducible first | exact bb_not_t | exact bb_not_f | exact bb_eq_t _ | exact bb_eq_f _ | exact bb_t_eq _ | exact bb_f_eq _ | exact bb_ne_t _ | exact bb_ne_f _ | exact bb_t_ne _ | exact bb_f_ne _ | exact bb_same _ | exact bb_nsame _ | exact bi_same _ | exact bi_nsame _) | rfl); rfl)
      | (refine wl_pure tt_ok rfl rfl ?_)
      | (apply wl_load tt_ok; rfl; (repeat (first | exact List.Mem.head _ | apply List.Mem.tail)); rfl; rfl)
      | (first | (apply wl_rd Try.call28; rfl; rfl; rfl; exact sub_keeps (ps := [0]) rfl; exact qFromOut _ _ _ _ _ _ _ (by omega) (by omega) (by omega) (by omega); rfl))
      | (apply wl_store tt_ok; rfl; (repeat (first | exact Upd.here | apply Upd.there)); rfl; rfl; rfl; rfl; rfl; rfl)
      | (refine wl_box rfl rfl rfl (fun _ => ?_))
      | (apply wl_build1 tt_ok; rfl; rfl; rfl; rfl; rfl; intro _)
      | (refine wl_alloc tt_ok rfl rfl (fun _ => ?_))
      | (apply wl_yes; rfl; rfl; (with_reducible rfl))
      | (apply wl_no_t; rfl; rfl; (with_reducible rfl); rfl)
      | (apply wl_no_f; rfl; rfl; (with_reducible rfl); rfl)
      | (apply wl_no_u; rfl; rfl; rfl)
      | (refine wl_guard rfl rfl (fun hc => ?_) (fun hc => ?_) <;> (first | (exfalso; contradiction) | ((try simp only [decide_eq_true_eq, decide_eq_false_iff_not, beq_iff_eq, bne_iff_ne, beq_eq_false_iff_ne, bne_eq_false_iff_eq, ne_eq, Decidable.not_not, Bool.not_eq_true', Bool.not_eq_false', Int.not_lt, Int.not_le] at hc); first | (exfalso; omega) | (exfalso; revert hc; decide) | skip)))
      | (with_reducible refine wl_nil ?_))
    | ((with_reducible (apply wc_id)); first
      | (with_reducible refine wc_seq ?_)
      | (with_reducible refine wc_region ?_)
      | (with_reducible refine wc_ret ?_)
      | (refine wc_cond rfl (fun hc => ?_) (fun hc => ?_) <;> (first | (exfalso; contradiction) | ((try simp only [decide_eq_true_eq, decide_eq_false_iff_not, beq_iff_eq, bne_iff_ne, beq_eq_false_iff_ne, bne_eq_false_iff_eq, ne_eq, Decidable.not_not, Bool.not_eq_true', Bool.not_eq_false', Int.not_lt, Int.not_le] at hc); first | (exfalso; omega) | (exfalso; revert hc; decide) | skip)))
      | (with_reducible refine wc_block ?_)
      | (with_reducible refine wc_skip ?_)
      | (with_reducible refine wc_exit ?_)
      | (with_reducible refine wc_quiet (by kernel_rfl) (by kernel_rfl) ?_))
    | ((with_reducible (apply wx_id)); first
      | (with_reducible refine wx_then ?_)
      | (with_reducible refine wx_block ?_)
      | (with_reducible refine wx_block_exit ?_)
      | (with_reducible refine wx_block_other (by rfl) ?_)
      | (with_reducible refine wx_block_ret ?_)
      | (with_reducible refine wx_then_exit ?_)
      | (with_reducible refine wx_then_ret ?_)
      | ((with_reducible (apply wx_pf tt_ok)); (first | exact .inl rfl | exact .inr rfl); (first | exact Try.results18 | rfl); (repeat (first | exact Res.nil | (apply Res.tmp; rfl) | (apply Res.cell; rfl; (repeat (first | exact List.Mem.head _ | apply List.Mem.tail)); rfl))))
      | ((with_reducible (apply wx_rd tt_ok)); (first | exact .inl rfl | exact .inr rfl); (first | exact Try.results18 | rfl); (repeat (first | exact Res.nil | (apply Res.tmp; rfl) | (apply Res.cell; rfl; (repeat (first | exact List.Mem.head _ | apply List.Mem.tail)); rfl))); (first | exact sub_refl | exact sub_drop1 | exact sub_drop2 | exact sub_keeps (ps := [0]) rfl | exact sub_keeps (ps := [1]) rfl | exact sub_keeps (ps := [2]) rfl | exact sub_keeps (ps := [3]) rfl | exact sub_keeps (ps := [0, 0]) rfl | exact sub_keeps (ps := [1, 0]) rfl | exact sub_keeps (ps := [1, 1]) rfl | exact sub_keeps (ps := [0, 1]) rfl | exact sub_keeps (ps := [2, 0]) rfl | exact sub_keeps (ps := [0, 2]) rfl | exact sub_keeps (ps := [2, 1]) rfl | exact sub_keeps (ps := [1, 2]) rfl | exact sub_keeps (ps := [2, 2]) rfl); (first | rfl | skip)))
    | ((with_reducible (apply wq_id)); first
      | (apply wq_arith tt_ok; rfl; rfl; (first | ((with_reducible refine fit_div_i64 ?_ ?_) <;> omega) | ((with_reducible refine fit_div_i32 ?_ ?_) <;> omega) | ((with_reducible refine fit_div_u64 ?_ ?_) <;> omega) | ((with_reducible refine fit_i64 ?_); omega) | ((with_reducible refine fit_i32 ?_); omega) | ((with_reducible refine fit_u64 ?_); omega) | ((with_reducible refine fit_u8 ?_); omega) | ((with_reducible refine fit_u32 ?_); omega) | ((with_reducible refine fit_u16 ?_); omega) | rfl); rfl)
      | (apply wq_boolish tt_ok; rfl; rfl; (first | (with_reducible first | exact bb_not_t | exact bb_not_f | exact bb_eq_t _ | exact bb_eq_f _ | exact bb_t_eq _ | exact bb_f_eq _ | exact bb_ne_t _ | exact bb_ne_f _ | exact bb_t_ne _ | exact bb_f_ne _ | exact bb_same _ | exact bb_nsame _ | exact bi_same _ | exact bi_nsame _) | rfl); rfl)
      | (refine wq_pure tt_ok rfl rfl ?_)
      | (apply wq_load tt_ok; rfl; (repeat (first | exact List.Mem.head _ | apply List.Mem.tail)); rfl; rfl)
      | (first | (apply wl_rd Try.call28; rfl; rfl; rfl; exact sub_keeps (ps := [0]) rfl; exact qFromOut _ _ _ _ _ _ _ (by omega) (by omega) (by omega) (by omega); rfl))
      | (apply wq_yes; rfl; rfl; (with_reducible rfl))
      | (apply wq_no_t; rfl; rfl; (with_reducible rfl); rfl)
      | (apply wq_no_f; rfl; rfl; (with_reducible rfl); rfl)
      | (apply wq_no_u; rfl; rfl; rfl)
      | (refine wq_guard rfl rfl (fun hc => ?_) (fun hc => ?_) <;> (first | (exfalso; contradiction) | ((try simp only [decide_eq_true_eq, decide_eq_false_iff_not, beq_iff_eq, bne_iff_ne, beq_eq_false_iff_ne, bne_eq_false_iff_eq, ne_eq, Decidable.not_not, Bool.not_eq_true', Bool.not_eq_false', Int.not_lt, Int.not_le] at hc); first | (exfalso; omega) | (exfalso; revert hc; decide) | skip)))
      | (with_reducible refine wq_nil ?_)))

theorem qKnownS (b : Nat) (first : Int) (s : List Int × Int) (pre : List Blk) (hQ : QSt b first s pre) (h1 : U64 first) (h2 : first + s.1.length ≤ 18446744073709551615) :
    Rd Try.prog 9 [.pointer (some ⟨b, 0, none⟩)] pre (.int .u64 (first + s.1.length)) := by
  obtain ⟨l, last⟩ := s
  obtain ⟨a, cap, B, hV, rfl⟩ := hQ
  simp only at *
  generalize hk : l.length = k at *
  clear hV
  refine sp_of_wc Try.func9 rfl Try.ntmps9 rfl rfl (fun w0 hR => ?_)
  repeat' (first
    | ((with_reducible (apply wl_id)); first
      | (apply wl_arith tt_ok; rfl; rfl; (first | ((with_reducible refine fit_div_i64 ?_ ?_) <;> omega) | ((with_reducible refine fit_div_i32 ?_ ?_) <;> omega) | ((with_reducible refine fit_div_u64 ?_ ?_) <;> omega) | ((with_reducible refine fit_i64 ?_); omega) | ((with_reducible refine fit_i32 ?_); omega) | ((with_reducible refine fit_u64 ?_); omega) | ((with_reducible refine fit_u8 ?_); omega) | ((with_reducible refine fit_u32 ?_); omega) | ((with_reducible refine fit_u16 ?_); omega) | rfl); rfl)
      | (apply wl_boolish tt_ok; rfl; rfl; (first | (with_reducible first | exact bb_not_t | exact bb_not_f | exact bb_eq_t _ | exact bb_eq_f _ | exact bb_t_eq _ | exact bb_f_eq _ | exact bb_ne_t _ | exact bb_ne_f _ | exact bb_t_ne _ | exact bb_f_ne _ | exact bb_same _ | exact bb_nsame _ | exact bi_same _ | exact bi_nsame _) | rfl); rfl)
      | (refine wl_pure tt_ok rfl rfl ?_)
      | (apply wl_load tt_ok; rfl; (repeat (first | exact List.Mem.head _ | apply List.Mem.tail)); rfl; rfl)
      | (apply wl_store tt_ok; rfl; (repeat (first | exact Upd.here | apply Upd.there)); rfl; rfl; rfl; rfl; rfl; rfl)
      | (refine wl_box rfl rfl rfl (fun _ => ?_))
      | (apply wl_build1 tt_ok; rfl; rfl; rfl; rfl; rfl; intro _)
      | (refine wl_alloc tt_ok rfl rfl (fun _ => ?_))
      | (apply wl_yes; rfl; rfl; (with_reducible rfl))
      | (apply wl_no_t; rfl; rfl; (with_reducible rfl); rfl)
      | (apply wl_no_f; rfl; rfl; (with_reducible rfl); rfl)
      | (apply wl_no_u; rfl; rfl; rfl)
      | (refine wl_guard rfl rfl (fun hc => ?_) (fun hc => ?_) <;> (first | (exfalso; contradiction) | ((try simp only [decide_eq_true_eq, decide_eq_false_iff_not, beq_iff_eq, bne_iff_ne, beq_eq_false_iff_ne, bne_eq_false_iff_eq, ne_eq, Decidable.not_not, Bool.not_eq_true', Bool.not_eq_false', Int.not_lt, Int.not_le] at hc); first | (exfalso; omega) | (exfalso; revert hc; decide) | skip)))
      | (with_reducible refine wl_nil ?_))
    | ((with_reducible (apply wc_id)); first
      | (with_reducible refine wc_seq ?_)
      | (with_reducible refine wc_region ?_)
      | (with_reducible refine wc_ret ?_)
      | (refine wc_cond rfl (fun hc => ?_) (fun hc => ?_) <;> (first | (exfalso; contradiction) | ((try simp only [decide_eq_true_eq, decide_eq_false_iff_not, beq_iff_eq, bne_iff_ne, beq_eq_false_iff_ne, bne_eq_false_iff_eq, ne_eq, Decidable.not_not, Bool.not_eq_true', Bool.not_eq_false', Int.not_lt, Int.not_le] at hc); first | (exfalso; omega) | (exfalso; revert hc; decide) | skip)))
      | (with_reducible refine wc_block ?_)
      | (with_reducible refine wc_skip ?_)
      | (with_reducible refine wc_exit ?_)
      | (with_reducible refine wc_quiet (by kernel_rfl) (by kernel_rfl) ?_))
    | ((with_reducible (apply wx_id)); first
      | (with_reducible refine wx_then ?_)
      | (with_reducible refine wx_block ?_)
      | (with_reducible refine wx_block_exit ?_)
      | (with_reducible refine wx_block_other (by rfl) ?_)
      | (with_reducible refine wx_block_ret ?_)
      | (with_reducible refine wx_then_exit ?_)
      | (with_reducible refine wx_then_ret ?_)
      | ((with_reducible (apply wx_pf tt_ok)); (first | exact .inl rfl | exact .inr rfl); (first | exact Try.results9 | rfl); (repeat (first | exact Res.nil | (apply Res.tmp; rfl) | (apply Res.cell; rfl; (repeat (first | exact List.Mem.head _ | apply List.Mem.tail)); rfl))))
      | ((with_reducible (apply wx_rd tt_ok)); (first | exact .inl rfl | exact .inr rfl); (first | exact Try.results9 | rfl); (repeat (first | exact Res.nil | (apply Res.tmp; rfl) | (apply Res.cell; rfl; (repeat (first | exact List.Mem.head _ | apply List.Mem.tail)); rfl))); (first | exact sub_refl | exact sub_drop1 | exact sub_drop2 | exact sub_keeps (ps := [0]) rfl | exact sub_keeps (ps := [1]) rfl | exact sub_keeps (ps := [2]) rfl | exact sub_keeps (ps := [3]) rfl | exact sub_keeps (ps := [0, 0]) rfl | exact sub_keeps (ps := [1, 0]) rfl | exact sub_keeps (ps := [1, 1]) rfl | exact sub_keeps (ps := [0, 1]) rfl | exact sub_keeps (ps := [2, 0]) rfl | exact sub_keeps (ps := [0, 2]) rfl | exact sub_keeps (ps := [2, 1]) rfl | exact sub_keeps (ps := [1, 2]) rfl | exact sub_keeps (ps := [2, 2]) rfl); (first | rfl | skip)))
    | ((with_reducible (apply wq_id)); first
      | (apply wq_arith tt_ok; rfl; rfl; (first | ((with_reducible refine fit_div_i64 ?_ ?_) <;> omega) | ((with_reducible refine fit_div_i32 ?_ ?_) <;> omega) | ((with_reducible refine fit_div_u64 ?_ ?_) <;> omega) | ((with_reducible refine fit_i64 ?_); omega) | ((with_reducible refine fit_i32 ?_); omega) | ((with_reducible refine fit_u64 ?_); omega) | ((with_reducible refine fit_u8 ?_); omega) | ((with_reducible refine fit_u32 ?_); omega) | ((with_reducible refine fit_u16 ?_); omega) | rfl); rfl)
      | (apply wq_boolish tt_ok; rfl; rfl; (first | (with_reducible first | exact bb_not_t | exact bb_not_f | exact bb_eq_t _ | exact bb_eq_f _ | exact bb_t_eq _ | exact bb_f_eq _ | exact bb_ne_t _ | exact bb_ne_f _ | exact bb_t_ne _ | exact bb_f_ne _ | exact bb_same _ | exact bb_nsame _ | exact bi_same _ | exact bi_nsame _) | rfl); rfl)
      | (refine wq_pure tt_ok rfl rfl ?_)
      | (apply wq_load tt_ok; rfl; (repeat (first | exact List.Mem.head _ | apply List.Mem.tail)); rfl; rfl)
      | (apply wq_yes; rfl; rfl; (with_reducible rfl))
      | (apply wq_no_t; rfl; rfl; (with_reducible rfl); rfl)
      | (apply wq_no_f; rfl; rfl; (with_reducible rfl); rfl)
      | (apply wq_no_u; rfl; rfl; rfl)
      | (refine wq_guard rfl rfl (fun hc => ?_) (fun hc => ?_) <;> (first | (exfalso; contradiction) | ((try simp only [decide_eq_true_eq, decide_eq_false_iff_not, beq_iff_eq, bne_iff_ne, beq_eq_false_iff_ne, bne_eq_false_iff_eq, ne_eq, Decidable.not_not, Bool.not_eq_true', Bool.not_eq_false', Int.not_lt, Int.not_le] at hc); first | (exfalso; omega) | (exfalso; revert hc; decide) | skip)))
      | (with_reducible refine wq_nil ?_)))

def qGuessV (first : Int) (s : List Int × Int) (f : Int) : Int := if first ≤ f ∧ f < first + s.1.length then s.1.getD (f - first).toNat 0 else s.2

theorem qGuess (b : Nat) (f first : Int) (s : List Int × Int) (pre : List Blk) (hQ : QSt b first s pre) (h1 : U64 first) (h2 : first + s.1.length ≤ 18446744073709551615) (hf : U64 f) :
    Rd Try.prog 12 [.pointer (some ⟨b, 0, none⟩), .int .u64 f] pre (.int .u8 (qGuessV first s f)) := by
  have hQ0 := hQ
  have hA := qAt b f first s pre hQ h1 h2 hf
  obtain ⟨l, last⟩ := s
  obtain ⟨a, cap, B, hV, rfl⟩ := hQ
  simp only at *
  unfold qGuessV
  unfold qIn qVal at hA
  by_cases ho : first ≤ f ∧ f < first + l.length
  · rw [if_pos ho, decide_eq_true ho] at hA
    rw [if_pos ho]
    simp only
    generalize l.getD (f - first).toNat 0 = u at *
    clear hV hQ0
    generalize l.length = k at *
    refine sp_of_wc Try.func12 rfl Try.ntmps12 rfl rfl (fun w0 hR => ?_)
    repeat' (first
    | ((with_reducible (apply wl_id)); first
      | (apply wl_arith tt_ok; rfl; rfl; (first | ((with_reducible refine fit_div_i64 ?_ ?_) <;> omega) | ((with_reducible refine fit_div_i32 ?_ ?_) <;> omega) | ((with_reducible refine fit_div_u64 ?_ ?_) <;> omega) | ((with_reducible refine fit_i64 ?_); omega) | ((with_reducible refine fit_i32 ?_); omega) | ((with_reducible refine fit_u64 ?_); omega) | ((with_reducible refine fit_u8 ?_); omega) | ((with_reducible refine fit_u32 ?_); omega) | ((with_reducible refine fit_u16 ?_); omega) | rfl); rfl)
      | (apply wl_boolish tt_ok; rfl; rfl; (first | (with_reducible first | exact bb_not_t | exact bb_not_f | exact bb_eq_t _ | exact bb_eq_f _ | exact bb_t_eq _ | exact bb_f_eq _ | exact bb_ne_t _ | exact bb_ne_f _ | exact bb_t_ne _ | exact bb_f_ne _ | exact bb_same _ | exact bb_nsame _ | exact bi_same _ | exact bi_nsame _) | rfl); rfl)
      | (refine wl_pure tt_ok rfl rfl ?_)
      | (apply wl_load tt_ok; rfl; (repeat (first | exact List.Mem.head _ | apply List.Mem.tail)); rfl; rfl)
      | ((apply wl_rd Try.call18; rfl; rfl; rfl; exact sub_refl; exact hA); rfl)
      | (apply wl_store tt_ok; rfl; (repeat (first | exact Upd.here | apply Upd.there)); rfl; rfl; rfl; rfl; rfl; rfl)
      | (refine wl_box rfl rfl rfl (fun _ => ?_))
      | (apply wl_build1 tt_ok; rfl; rfl; rfl; rfl; rfl; intro _)
      | (refine wl_alloc tt_ok rfl rfl (fun _ => ?_))
      | (apply wl_yes; rfl; rfl; (with_reducible rfl))
      | (apply wl_no_t; rfl; rfl; (with_reducible rfl); rfl)
      | (apply wl_no_f; rfl; rfl; (with_reducible rfl); rfl)
      | (apply wl_no_u; rfl; rfl; rfl)
      | (refine wl_guard rfl rfl (fun hc => ?_) (fun hc => ?_) <;> (first | (exfalso; contradiction) | ((try simp only [decide_eq_true_eq, decide_eq_false_iff_not, beq_iff_eq, bne_iff_ne, beq_eq_false_iff_ne, bne_eq_false_iff_eq, ne_eq, Decidable.not_not, Bool.not_eq_true', Bool.not_eq_false', Int.not_lt, Int.not_le] at hc); first | (exfalso; omega) | (exfalso; revert hc; decide) | skip)))
      | (with_reducible refine wl_nil ?_))
    | ((with_reducible (apply wc_id)); first
      | (with_reducible refine wc_seq ?_)
      | (with_reducible refine wc_region ?_)
      | (with_reducible refine wc_ret ?_)
      | (refine wc_cond rfl (fun hc => ?_) (fun hc => ?_) <;> (first | (exfalso; contradiction) | ((try simp only [decide_eq_true_eq, decide_eq_false_iff_not, beq_iff_eq, bne_iff_ne, beq_eq_false_iff_ne, bne_eq_false_iff_eq, ne_eq, Decidable.not_not, Bool.not_eq_true', Bool.not_eq_false', Int.not_lt, Int.not_le] at hc); first | (exfalso; omega) | (exfalso; revert hc; decide) | skip)))
      | (with_reducible refine wc_block ?_)
      | (with_reducible refine wc_skip ?_)
      | (with_reducible refine wc_exit ?_)
      | (with_reducible refine wc_quiet (by kernel_rfl) (by kernel_rfl) ?_))
    | ((with_reducible (apply wx_id)); first
      | (with_reducible refine wx_then ?_)
      | (with_reducible refine wx_block ?_)
      | (with_reducible refine wx_block_exit ?_)
      | (with_reducible refine wx_block_other (by rfl) ?_)
      | (with_reducible refine wx_block_ret ?_)
      | (with_reducible refine wx_then_exit ?_)
      | (with_reducible refine wx_then_ret ?_)
      | ((with_reducible (apply wx_pf tt_ok)); (first | exact .inl rfl | exact .inr rfl); (first | exact Try.results12 | rfl); (repeat (first | exact Res.nil | (apply Res.tmp; rfl) | (apply Res.cell; rfl; (repeat (first | exact List.Mem.head _ | apply List.Mem.tail)); rfl))))
      | ((with_reducible (apply wx_rd tt_ok)); (first | exact .inl rfl | exact .inr rfl); (first | exact Try.results12 | rfl); (repeat (first | exact Res.nil | (apply Res.tmp; rfl) | (apply Res.cell; rfl; (repeat (first | exact List.Mem.head _ | apply List.Mem.tail)); rfl))); (first | exact sub_refl | exact sub_drop1 | exact sub_drop2 | exact sub_keeps (ps := [0]) rfl | exact sub_keeps (ps := [1]) rfl | exact sub_keeps (ps := [2]) rfl | exact sub_keeps (ps := [3]) rfl | exact sub_keeps (ps := [0, 0]) rfl | exact sub_keeps (ps := [1, 0]) rfl | exact sub_keeps (ps := [1, 1]) rfl | exact sub_keeps (ps := [0, 1]) rfl | exact sub_keeps (ps := [2, 0]) rfl | exact sub_keeps (ps := [0, 2]) rfl | exact sub_keeps (ps := [2, 1]) rfl | exact sub_keeps (ps := [1, 2]) rfl | exact sub_keeps (ps := [2, 2]) rfl); (first | rfl | skip)))
    | ((with_reducible (apply wq_id)); first
      | (apply wq_arith tt_ok; rfl; rfl; (first | ((with_reducible refine fit_div_i64 ?_ ?_) <;> omega) | ((with_reducible refine fit_div_i32 ?_ ?_) <;> omega) | ((with_reducible refine fit_div_u64 ?_ ?_) <;> omega) | ((with_reducible refine fit_i64 ?_); omega) | ((with_reducible refine fit_i32 ?_); omega) | ((with_reducible refine fit_u64 ?_); omega) | ((with_reducible refine fit_u8 ?_); omega) | ((with_reducible refine fit_u32 ?_); omega) | ((with_reducible refine fit_u16 ?_); omega) | rfl); rfl)
      | (apply wq_boolish tt_ok; rfl; rfl; (first | (with_reducible first | exact bb_not_t | exact bb_not_f | exact bb_eq_t _ | exact bb_eq_f _ | exact bb_t_eq _ | exact bb_f_eq _ | exact bb_ne_t _ | exact bb_ne_f _ | exact bb_t_ne _ | exact bb_f_ne _ | exact bb_same _ | exact bb_nsame _ | exact bi_same _ | exact bi_nsame _) | rfl); rfl)
      | (refine wq_pure tt_ok rfl rfl ?_)
      | (apply wq_load tt_ok; rfl; (repeat (first | exact List.Mem.head _ | apply List.Mem.tail)); rfl; rfl)
      | ((apply wl_rd Try.call18; rfl; rfl; rfl; exact sub_refl; exact hA); rfl)
      | (apply wq_yes; rfl; rfl; (with_reducible rfl))
      | (apply wq_no_t; rfl; rfl; (with_reducible rfl); rfl)
      | (apply wq_no_f; rfl; rfl; (with_reducible rfl); rfl)
      | (apply wq_no_u; rfl; rfl; rfl)
      | (refine wq_guard rfl rfl (fun hc => ?_) (fun hc => ?_) <;> (first | (exfalso; contradiction) | ((try simp only [decide_eq_true_eq, decide_eq_false_iff_not, beq_iff_eq, bne_iff_ne, beq_eq_false_iff_ne, bne_eq_false_iff_eq, ne_eq, Decidable.not_not, Bool.not_eq_true', Bool.not_eq_false', Int.not_lt, Int.not_le] at hc); first | (exfalso; omega) | (exfalso; revert hc; decide) | skip)))
      | (with_reducible refine wq_nil ?_)))
  · rw [if_neg ho, decide_eq_false ho] at hA
    rw [if_neg ho]
    simp only
    clear hV hQ0
    generalize l.length = k at *
    refine sp_of_wc Try.func12 rfl Try.ntmps12 rfl rfl (fun w0 hR => ?_)
    repeat' (first
    | ((with_reducible (apply wl_id)); first
      | (apply wl_arith tt_ok; rfl; rfl; (first | ((with_reducible refine fit_div_i64 ?_ ?_) <;> omega) | ((with_reducible refine fit_div_i32 ?_ ?_) <;> omega) | ((with_reducible refine fit_div_u64 ?_ ?_) <;> omega) | ((with_reducible refine fit_i64 ?_); omega) | ((with_reducible refine fit_i32 ?_); omega) | ((with_reducible refine fit_u64 ?_); omega) | ((with_reducible refine fit_u8 ?_); omega) | ((with_reducible refine fit_u32 ?_); omega) | ((with_reducible refine fit_u16 ?_); omega) | rfl); rfl)
      | (apply wl_boolish tt_ok; rfl; rfl; (first | (with_reducible first | exact bb_not_t | exact bb_not_f | exact bb_eq_t _ | exact bb_eq_f _ | exact bb_t_eq _ | exact bb_f_eq _ | exact bb_ne_t _ | exact bb_ne_f _ | exact bb_t_ne _ | exact bb_f_ne _ | exact bb_same _ | exact bb_nsame _ | exact bi_same _ | exact bi_nsame _) | rfl); rfl)
      | (refine wl_pure tt_ok rfl rfl ?_)
      | (apply wl_load tt_ok; rfl; (repeat (first | exact List.Mem.head _ | apply List.Mem.tail)); rfl; rfl)
      | ((apply wl_rd Try.call18; rfl; rfl; rfl; exact sub_refl; exact hA); rfl)
      | (apply wl_store tt_ok; rfl; (repeat (first | exact Upd.here | apply Upd.there)); rfl; rfl; rfl; rfl; rfl; rfl)
      | (refine wl_box rfl rfl rfl (fun _ => ?_))
      | (apply wl_build1 tt_ok; rfl; rfl; rfl; rfl; rfl; intro _)
      | (refine wl_alloc tt_ok rfl rfl (fun _ => ?_))
      | (apply wl_yes; rfl; rfl; (with_reducible rfl))
      | (apply wl_no_t; rfl; rfl; (with_reducible rfl); rfl)
      | (apply wl_no_f; rfl; rfl; (with_reducible rfl); rfl)
      | (apply wl_no_u; rfl; rfl; rfl)
      | (refine wl_guard rfl rfl (fun hc => ?_) (fun hc => ?_) <;> (first | (exfalso; contradiction) | ((try simp only [decide_eq_true_eq, decide_eq_false_iff_not, beq_iff_eq, bne_iff_ne, beq_eq_false_iff_ne, bne_eq_false_iff_eq, ne_eq, Decidable.not_not, Bool.not_eq_true', Bool.not_eq_false', Int.not_lt, Int.not_le] at hc); first | (exfalso; omega) | (exfalso; revert hc; decide) | skip)))
      | (with_reducible refine wl_nil ?_))
    | ((with_reducible (apply wc_id)); first
      | (with_reducible refine wc_seq ?_)
      | (with_reducible refine wc_region ?_)
      | (with_reducible refine wc_ret ?_)
      | (refine wc_cond rfl (fun hc => ?_) (fun hc => ?_) <;> (first | (exfalso; contradiction) | ((try simp only [decide_eq_true_eq, decide_eq_false_iff_not, beq_iff_eq, bne_iff_ne, beq_eq_false_iff_ne, bne_eq_false_iff_eq, ne_eq, Decidable.not_not, Bool.not_eq_true', Bool.not_eq_false', Int.not_lt, Int.not_le] at hc); first | (exfalso; omega) | (exfalso; revert hc; decide) | skip)))
      | (with_reducible refine wc_block ?_)
      | (with_reducible refine wc_skip ?_)
      | (with_reducible refine wc_exit ?_)
      | (with_reducible refine wc_quiet (by kernel_rfl) (by kernel_rfl) ?_))
    | ((with_reducible (apply wx_id)); first
      | (with_reducible refine wx_then ?_)
      | (with_reducible refine wx_block ?_)
      | (with_reducible refine wx_block_exit ?_)
      | (with_reducible refine wx_block_other (by rfl) ?_)
      | (with_reducible refine wx_block_ret ?_)
      | (with_reducible refine wx_then_exit ?_)
      | (with_reducible refine wx_then_ret ?_)
      | ((with_reducible (apply wx_pf tt_ok)); (first | exact .inl rfl | exact .inr rfl); (first | exact Try.results12 | rfl); (repeat (first | exact Res.nil | (apply Res.tmp; rfl) | (apply Res.cell; rfl; (repeat (first | exact List.Mem.head _ | apply List.Mem.tail)); rfl))))
      | ((with_reducible (apply wx_rd tt_ok)); (first | exact .inl rfl | exact .inr rfl); (first | exact Try.results12 | rfl); (repeat (first | exact Res.nil | (apply Res.tmp; rfl) | (apply Res.cell; rfl; (repeat (first | exact List.Mem.head _ | apply List.Mem.tail)); rfl))); (first | exact sub_refl | exact sub_drop1 | exact sub_drop2 | exact sub_keeps (ps := [0]) rfl | exact sub_keeps (ps := [1]) rfl | exact sub_keeps (ps := [2]) rfl | exact sub_keeps (ps := [3]) rfl | exact sub_keeps (ps := [0, 0]) rfl | exact sub_keeps (ps := [1, 0]) rfl | exact sub_keeps (ps := [1, 1]) rfl | exact sub_keeps (ps := [0, 1]) rfl | exact sub_keeps (ps := [2, 0]) rfl | exact sub_keeps (ps := [0, 2]) rfl | exact sub_keeps (ps := [2, 1]) rfl | exact sub_keeps (ps := [1, 2]) rfl | exact sub_keeps (ps := [2, 2]) rfl); (first | rfl | skip)))
    | ((with_reducible (apply wq_id)); first
      | (apply wq_arith tt_ok; rfl; rfl; (first | ((with_reducible refine fit_div_i64 ?_ ?_) <;> omega) | ((with_reducible refine fit_div_i32 ?_ ?_) <;> omega) | ((with_reducible refine fit_div_u64 ?_ ?_) <;> omega) | ((with_reducible refine fit_i64 ?_); omega) | ((with_reducible refine fit_i32 ?_); omega) | ((with_reducible refine fit_u64 ?_); omega) | ((with_reducible refine fit_u8 ?_); omega) | ((with_reducible refine fit_u32 ?_); omega) | ((with_reducible refine fit_u16 ?_); omega) | rfl); rfl)
      | (apply wq_boolish tt_ok; rfl; rfl; (first | (with_reducible first | exact bb_not_t | exact bb_not_f | exact bb_eq_t _ | exact bb_eq_f _ | exact bb_t_eq _ | exact bb_f_eq _ | exact bb_ne_t _ | exact bb_ne_f _ | exact bb_t_ne _ | exact bb_f_ne _ | exact bb_same _ | exact bb_nsame _ | exact bi_same _ | exact bi_nsame _) | rfl); rfl)
      | (refine wq_pure tt_ok rfl rfl ?_)
      | (apply wq_load tt_ok; rfl; (repeat (first | exact List.Mem.head _ | apply List.Mem.tail)); rfl; rfl)
      | ((apply wl_rd Try.call18; rfl; rfl; rfl; exact sub_refl; exact hA); rfl)
      | (apply wq_yes; rfl; rfl; (with_reducible rfl))
      | (apply wq_no_t; rfl; rfl; (with_reducible rfl); rfl)
      | (apply wq_no_f; rfl; rfl; (with_reducible rfl); rfl)
      | (apply wq_no_u; rfl; rfl; rfl)
      | (refine wq_guard rfl rfl (fun hc => ?_) (fun hc => ?_) <;> (first | (exfalso; contradiction) | ((try simp only [decide_eq_true_eq, decide_eq_false_iff_not, beq_iff_eq, bne_iff_ne, beq_eq_false_iff_ne, bne_eq_false_iff_eq, ne_eq, Decidable.not_not, Bool.not_eq_true', Bool.not_eq_false', Int.not_lt, Int.not_le] at hc); first | (exfalso; omega) | (exfalso; revert hc; decide) | skip)))
      | (with_reducible refine wq_nil ?_)))

theorem qat_any (b : Nat) (f first want : Int) (s : List Int × Int) (pre : List Blk) (hQ : QSt b first s pre) (h1 : U64 first) (h2 : first + s.1.length ≤ 18446744073709551615) (hf : U64 f) :
    Rd Try.prog 11 [.pointer (some ⟨b, 0, none⟩), .int .u64 f, .int .u8 want] pre (.bool (qIn first s.1 f && decide (qVal first s.1 f = want))) := by
  have hA := qAt b f first s pre hQ h1 h2 hf
  clear hQ
  generalize qIn first s.1 f = x at *
  generalize qVal first s.1 f = u at *
  cases x
  all_goals
    (skip
     refine sp_of_wc Try.func11 rfl Try.ntmps11 rfl rfl (fun w0 hR => ?_)
     repeat' (first
    | ((with_reducible (apply wl_id)); first
      | (apply wl_arith tt_ok; rfl; rfl; (first | ((with_reducible refine fit_div_i64 ?_ ?_) <;> omega) | ((with_reducible refine fit_div_i32 ?_ ?_) <;> omega) | ((with_reducible refine fit_div_u64 ?_ ?_) <;> omega) | ((with_reducible refine fit_i64 ?_); omega) | ((with_reducible refine fit_i32 ?_); omega) | ((with_reducible refine fit_u64 ?_); omega) | ((with_reducible refine fit_u8 ?_); omega) | ((with_reducible refine fit_u32 ?_); omega) | ((with_reducible refine fit_u16 ?_); omega) | rfl); rfl)
      | (apply wl_boolish tt_ok; rfl; rfl; (first | (with_reducible first | exact bb_not_t | exact bb_not_f | exact bb_eq_t _ | exact bb_eq_f _ | exact bb_t_eq _ | exact bb_f_eq _ | exact bb_ne_t _ | exact bb_ne_f _ | exact bb_t_ne _ | exact bb_f_ne _ | exact bb_same _ | exact bb_nsame _ | exact bi_same _ | exact bi_nsame _) | rfl); rfl)
      | (refine wl_pure tt_ok rfl rfl ?_)
      | (apply wl_load tt_ok; rfl; (repeat (first | exact List.Mem.head _ | apply List.Mem.tail)); rfl; rfl)
      | ((apply wl_rd Try.call18; rfl; rfl; rfl; exact sub_refl; exact hA); rfl)
      | (apply wl_store tt_ok; rfl; (repeat (first | exact Upd.here | apply Upd.there)); rfl; rfl; rfl; rfl; rfl; rfl)
      | (refine wl_box rfl rfl rfl (fun _ => ?_))
      | (apply wl_build1 tt_ok; rfl; rfl; rfl; rfl; rfl; intro _)
      | (refine wl_alloc tt_ok rfl rfl (fun _ => ?_))
      | (apply wl_yes; rfl; rfl; (with_reducible rfl))
      | (apply wl_no_t; rfl; rfl; (with_reducible rfl); rfl)
      | (apply wl_no_f; rfl; rfl; (with_reducible rfl); rfl)
      | (apply wl_no_u; rfl; rfl; rfl)
      | (refine wl_guard rfl rfl (fun hc => ?_) (fun hc => ?_) <;> (first | (exfalso; contradiction) | ((try simp only [decide_eq_true_eq, decide_eq_false_iff_not, beq_iff_eq, bne_iff_ne, beq_eq_false_iff_ne, bne_eq_false_iff_eq, ne_eq, Decidable.not_not, Bool.not_eq_true', Bool.not_eq_false', Int.not_lt, Int.not_le] at hc); first | (exfalso; omega) | (exfalso; revert hc; decide) | skip)))
      | (with_reducible refine wl_nil ?_))
    | ((with_reducible (apply wc_id)); first
      | (with_reducible refine wc_seq ?_)
      | (with_reducible refine wc_region ?_)
      | (with_reducible refine wc_ret ?_)
      | (refine wc_cond rfl (fun hc => ?_) (fun hc => ?_) <;> (first | (exfalso; contradiction) | ((try simp only [decide_eq_true_eq, decide_eq_false_iff_not, beq_iff_eq, bne_iff_ne, beq_eq_false_iff_ne, bne_eq_false_iff_eq, ne_eq, Decidable.not_not, Bool.not_eq_true', Bool.not_eq_false', Int.not_lt, Int.not_le] at hc); first | (exfalso; omega) | (exfalso; revert hc; decide) | skip)))
      | (with_reducible refine wc_block ?_)
      | (with_reducible refine wc_skip ?_)
      | (with_reducible refine wc_exit ?_)
      | (with_reducible refine wc_quiet (by kernel_rfl) (by kernel_rfl) ?_))
    | ((with_reducible (apply wx_id)); first
      | (with_reducible refine wx_then ?_)
      | (with_reducible refine wx_block ?_)
      | (with_reducible refine wx_block_exit ?_)
      | (with_reducible refine wx_block_other (by rfl) ?_)
      | (with_reducible refine wx_block_ret ?_)
      | (with_reducible refine wx_then_exit ?_)
      | (with_reducible refine wx_then_ret ?_)
      | ((with_reducible (apply wx_pf tt_ok)); (first | exact .inl rfl | exact .inr rfl); (first | exact Try.results11 | rfl); (repeat (first | exact Res.nil | (apply Res.tmp; rfl) | (apply Res.cell; rfl; (repeat (first | exact List.Mem.head _ | apply List.Mem.tail)); rfl))))
      | ((with_reducible (apply wx_rd tt_ok)); (first | exact .inl rfl | exact .inr rfl); (first | exact Try.results11 | rfl); (repeat (first | exact Res.nil | (apply Res.tmp; rfl) | (apply Res.cell; rfl; (repeat (first | exact List.Mem.head _ | apply List.Mem.tail)); rfl))); (first | exact sub_refl | exact sub_drop1 | exact sub_drop2 | exact sub_keeps (ps := [0]) rfl | exact sub_keeps (ps := [1]) rfl | exact sub_keeps (ps := [2]) rfl | exact sub_keeps (ps := [3]) rfl | exact sub_keeps (ps := [0, 0]) rfl | exact sub_keeps (ps := [1, 0]) rfl | exact sub_keeps (ps := [1, 1]) rfl | exact sub_keeps (ps := [0, 1]) rfl | exact sub_keeps (ps := [2, 0]) rfl | exact sub_keeps (ps := [0, 2]) rfl | exact sub_keeps (ps := [2, 1]) rfl | exact sub_keeps (ps := [1, 2]) rfl | exact sub_keeps (ps := [2, 2]) rfl); (first | rfl | skip)))
    | ((with_reducible (apply wq_id)); first
      | (apply wq_arith tt_ok; rfl; rfl; (first | ((with_reducible refine fit_div_i64 ?_ ?_) <;> omega) | ((with_reducible refine fit_div_i32 ?_ ?_) <;> omega) | ((with_reducible refine fit_div_u64 ?_ ?_) <;> omega) | ((with_reducible refine fit_i64 ?_); omega) | ((with_reducible refine fit_i32 ?_); omega) | ((with_reducible refine fit_u64 ?_); omega) | ((with_reducible refine fit_u8 ?_); omega) | ((with_reducible refine fit_u32 ?_); omega) | ((with_reducible refine fit_u16 ?_); omega) | rfl); rfl)
      | (apply wq_boolish tt_ok; rfl; rfl; (first | (with_reducible first | exact bb_not_t | exact bb_not_f | exact bb_eq_t _ | exact bb_eq_f _ | exact bb_t_eq _ | exact bb_f_eq _ | exact bb_ne_t _ | exact bb_ne_f _ | exact bb_t_ne _ | exact bb_f_ne _ | exact bb_same _ | exact bb_nsame _ | exact bi_same _ | exact bi_nsame _) | rfl); rfl)
      | (refine wq_pure tt_ok rfl rfl ?_)
      | (apply wq_load tt_ok; rfl; (repeat (first | exact List.Mem.head _ | apply List.Mem.tail)); rfl; rfl)
      | ((apply wl_rd Try.call18; rfl; rfl; rfl; exact sub_refl; exact hA); rfl)
      | (apply wq_yes; rfl; rfl; (with_reducible rfl))
      | (apply wq_no_t; rfl; rfl; (with_reducible rfl); rfl)
      | (apply wq_no_f; rfl; rfl; (with_reducible rfl); rfl)
      | (apply wq_no_u; rfl; rfl; rfl)
      | (refine wq_guard rfl rfl (fun hc => ?_) (fun hc => ?_) <;> (first | (exfalso; contradiction) | ((try simp only [decide_eq_true_eq, decide_eq_false_iff_not, beq_iff_eq, bne_iff_ne, beq_eq_false_iff_ne, bne_eq_false_iff_eq, ne_eq, Decidable.not_not, Bool.not_eq_true', Bool.not_eq_false', Int.not_lt, Int.not_le] at hc); first | (exfalso; omega) | (exfalso; revert hc; decide) | skip)))
      | (with_reducible refine wq_nil ?_))))
  all_goals simp [resV]

theorem qno_any (b : Nat) (f first : Int) (s : List Int × Int) (pre : List Blk) (hQ : QSt b first s pre) (h1 : U64 first) (h2 : first + s.1.length ≤ 18446744073709551615) (hf : U64 f) :
    Rd Try.prog 13 [.pointer (some ⟨b, 0, none⟩), .int .u64 f] pre (.bool (!(qIn first s.1 f) && decide (qVal first s.1 f = 0))) := by
  have hA := qAt b f first s pre hQ h1 h2 hf
  clear hQ
  generalize qIn first s.1 f = x at *
  generalize qVal first s.1 f = u at *
  cases x
  all_goals
    (skip
     refine sp_of_wc Try.func13 rfl Try.ntmps13 rfl rfl (fun w0 hR => ?_)
     repeat' (first
    | ((with_reducible (apply wl_id)); first
      | (apply wl_arith tt_ok; rfl; rfl; (first | ((with_reducible refine fit_div_i64 ?_ ?_) <;> omega) | ((with_reducible refine fit_div_i32 ?_ ?_) <;> omega) | ((with_reducible refine fit_div_u64 ?_ ?_) <;> omega) | ((with_reducible refine fit_i64 ?_); omega) | ((with_reducible refine fit_i32 ?_); omega) | ((with_reducible refine fit_u64 ?_); omega) | ((with_reducible refine fit_u8 ?_); omega) | ((with_reducible refine fit_u32 ?_); omega) | ((with_reducible refine fit_u16 ?_); omega) | rfl); rfl)
      | (apply wl_boolish tt_ok; rfl; rfl; (first | (with_reducible first | exact bb_not_t | exact bb_not_f | exact bb_eq_t _ | exact bb_eq_f _ | exact bb_t_eq _ | exact bb_f_eq _ | exact bb_ne_t _ | exact bb_ne_f _ | exact bb_t_ne _ | exact bb_f_ne _ | exact bb_same _ | exact bb_nsame _ | exact bi_same _ | exact bi_nsame _) | rfl); rfl)
      | (refine wl_pure tt_ok rfl rfl ?_)
      | (apply wl_load tt_ok; rfl; (repeat (first | exact List.Mem.head _ | apply List.Mem.tail)); rfl; rfl)
      | ((apply wl_rd Try.call18; rfl; rfl; rfl; exact sub_refl; exact hA); rfl)
      | (apply wl_store tt_ok; rfl; (repeat (first | exact Upd.here | apply Upd.there)); rfl; rfl; rfl; rfl; rfl; rfl)
      | (refine wl_box rfl rfl rfl (fun _ => ?_))
      | (apply wl_build1 tt_ok; rfl; rfl; rfl; rfl; rfl; intro _)
      | (refine wl_alloc tt_ok rfl rfl (fun _ => ?_))
      | (apply wl_yes; rfl; rfl; (with_reducible rfl))
      | (apply wl_no_t; rfl; rfl; (with_reducible rfl); rfl)
      | (apply wl_no_f; rfl; rfl; (with_reducible rfl); rfl)
      | (apply wl_no_u; rfl; rfl; rfl)
      | (refine wl_guard rfl rfl (fun hc => ?_) (fun hc => ?_) <;> (first | (exfalso; contradiction) | ((try simp only [decide_eq_true_eq, decide_eq_false_iff_not, beq_iff_eq, bne_iff_ne, beq_eq_false_iff_ne, bne_eq_false_iff_eq, ne_eq, Decidable.not_not, Bool.not_eq_true', Bool.not_eq_false', Int.not_lt, Int.not_le] at hc); first | (exfalso; omega) | (exfalso; revert hc; decide) | skip)))
      | (with_reducible refine wl_nil ?_))
    | ((with_reducible (apply wc_id)); first
      | (with_reducible refine wc_seq ?_)
      | (with_reducible refine wc_region ?_)
      | (with_reducible refine wc_ret ?_)
      | (refine wc_cond rfl (fun hc => ?_) (fun hc => ?_) <;> (first | (exfalso; contradiction) | ((try simp only [decide_eq_true_eq, decide_eq_false_iff_not, beq_iff_eq, bne_iff_ne, beq_eq_false_iff_ne, bne_eq_false_iff_eq, ne_eq, Decidable.not_not, Bool.not_eq_true', Bool.not_eq_false', Int.not_lt, Int.not_le] at hc); first | (exfalso; omega) | (exfalso; revert hc; decide) | skip)))
      | (with_reducible refine wc_block ?_)
      | (with_reducible refine wc_skip ?_)
      | (with_reducible refine wc_exit ?_)
      | (with_reducible refine wc_quiet (by kernel_rfl) (by kernel_rfl) ?_))
    | ((with_reducible (apply wx_id)); first
      | (with_reducible refine wx_then ?_)
      | (with_reducible refine wx_block ?_)
      | (with_reducible refine wx_block_exit ?_)
      | (with_reducible refine wx_block_other (by rfl) ?_)
      | (with_reducible refine wx_block_ret ?_)
      | (with_reducible refine wx_then_exit ?_)
      | (with_reducible refine wx_then_ret ?_)
      | ((with_reducible (apply wx_pf tt_ok)); (first | exact .inl rfl | exact .inr rfl); (first | exact Try.results13 | rfl); (repeat (first | exact Res.nil | (apply Res.tmp; rfl) | (apply Res.cell; rfl; (repeat (first | exact List.Mem.head _ | apply List.Mem.tail)); rfl))))
      | ((with_reducible (apply wx_rd tt_ok)); (first | exact .inl rfl | exact .inr rfl); (first | exact Try.results13 | rfl); (repeat (first | exact Res.nil | (apply Res.tmp; rfl) | (apply Res.cell; rfl; (repeat (first | exact List.Mem.head _ | apply List.Mem.tail)); rfl))); (first | exact sub_refl | exact sub_drop1 | exact sub_drop2 | exact sub_keeps (ps := [0]) rfl | exact sub_keeps (ps := [1]) rfl | exact sub_keeps (ps := [2]) rfl | exact sub_keeps (ps := [3]) rfl | exact sub_keeps (ps := [0, 0]) rfl | exact sub_keeps (ps := [1, 0]) rfl | exact sub_keeps (ps := [1, 1]) rfl | exact sub_keeps (ps := [0, 1]) rfl | exact sub_keeps (ps := [2, 0]) rfl | exact sub_keeps (ps := [0, 2]) rfl | exact sub_keeps (ps := [2, 1]) rfl | exact sub_keeps (ps := [1, 2]) rfl | exact sub_keeps (ps := [2, 2]) rfl); (first | rfl | skip)))
    | ((with_reducible (apply wq_id)); first
      | (apply wq_arith tt_ok; rfl; rfl; (first | ((with_reducible refine fit_div_i64 ?_ ?_) <;> omega) | ((with_reducible refine fit_div_i32 ?_ ?_) <;> omega) | ((with_reducible refine fit_div_u64 ?_ ?_) <;> omega) | ((with_reducible refine fit_i64 ?_); omega) | ((with_reducible refine fit_i32 ?_); omega) | ((with_reducible refine fit_u64 ?_); omega) | ((with_reducible refine fit_u8 ?_); omega) | ((with_reducible refine fit_u32 ?_); omega) | ((with_reducible refine fit_u16 ?_); omega) | rfl); rfl)
      | (apply wq_boolish tt_ok; rfl; rfl; (first | (with_reducible first | exact bb_not_t | exact bb_not_f | exact bb_eq_t _ | exact bb_eq_f _ | exact bb_t_eq _ | exact bb_f_eq _ | exact bb_ne_t _ | exact bb_ne_f _ | exact bb_t_ne _ | exact bb_f_ne _ | exact bb_same _ | exact bb_nsame _ | exact bi_same _ | exact bi_nsame _) | rfl); rfl)
      | (refine wq_pure tt_ok rfl rfl ?_)
      | (apply wq_load tt_ok; rfl; (repeat (first | exact List.Mem.head _ | apply List.Mem.tail)); rfl; rfl)
      | ((apply wl_rd Try.call18; rfl; rfl; rfl; exact sub_refl; exact hA); rfl)
      | (apply wq_yes; rfl; rfl; (with_reducible rfl))
      | (apply wq_no_t; rfl; rfl; (with_reducible rfl); rfl)
      | (apply wq_no_f; rfl; rfl; (with_reducible rfl); rfl)
      | (apply wq_no_u; rfl; rfl; rfl)
      | (refine wq_guard rfl rfl (fun hc => ?_) (fun hc => ?_) <;> (first | (exfalso; contradiction) | ((try simp only [decide_eq_true_eq, decide_eq_false_iff_not, beq_iff_eq, bne_iff_ne, beq_eq_false_iff_ne, bne_eq_false_iff_eq, ne_eq, Decidable.not_not, Bool.not_eq_true', Bool.not_eq_false', Int.not_lt, Int.not_le] at hc); first | (exfalso; omega) | (exfalso; revert hc; decide) | skip)))
      | (with_reducible refine wq_nil ?_))))
  all_goals simp [resV]

end Go.Proofs.Ytfjmhnfaoifehaa
