/-
  Chapter 24 (queue): the laws' own helpers (works), and the law QueueAny.
-/
import Derived.Test.YtfjmhnfaoifehaaQueue
namespace Go.Proofs.Ytfjmhnfaoifehaa
open Go.Proofs.Ytfjmhnfaoifehaa.Eng Go.RowKit Go.ChangeShapes Go.WideShapes Go.ChangeAt
set_option linter.unusedSimpArgs false
set_option linter.unusedVariables false
set_option maxHeartbeats 2000000

section
variable {P : Program} {ops : Array Oper} {Q : Exit → Act → World → Prop} {w0 : World} {A : List Nat} {n : Nat}
variable {E : List (Nat × Value)} {L : List Blk} {rest : List Oper}
theorem wl_spL {f : Operand} {args : Array Operand} {ts : Array TypeId} {ty : TypeId} {pos : String} {aft : Array Edge} {d : Nat} {g : FuncId} {p q : Array Value} {vs al : List Value}
    {S : Value → List Blk → Prop}
    (hc : ∀ args w, (callFunc g args).run P w = .ok (.enter g args) w)
    (hf : evO E f = some (.func (.func g) p q)) (ha : evArgs E args.toList = some vs) (hn : normO (p.toList ++ (vs ++ q.toList)) = some al)
    (h : Sp P g al L (fun _ => True) S)
    (hd : Nat.blt d n = true) (k : ∀ v L', S v L' → WL P ops Q w0 A n rest ((d, v) :: E) L') :
    WL P ops Q w0 A n (⟨some d, .call ⟨.value f, args, ts⟩, ty, pos, aft, none⟩ :: rest) E L :=
  wl_sp (F := []) hc hf ha hn h (by simp) (fun _ _ => trivial) hd (fun v L' hS => by rw [List.append_nil]; exact k v L' hS)
end

theorem qst_new (b : Nat) (first : Int) : QSt b first ([], 0) [QB b first (.slice none 0 0) 0] := ⟨none, 0, [], Vec.none, rfl⟩

theorem works_any : Pf Try.prog 7 [] (fun _ => True) (.bool true) := by
  refine pf_of_wc Try.func7 rfl Try.ntmps7 rfl rfl (fun w0 hR => ?_)
  repeat' (first
    | ((with_reducible (apply wl_id)); first
      | (apply wl_arith tt_ok; rfl; rfl; (first | ((with_reducible refine fit_div_i64 ?_ ?_) <;> omega) | ((with_reducible refine fit_div_i32 ?_ ?_) <;> omega) | ((with_reducible refine fit_div_u64 ?_ ?_) <;> omega) | ((with_reducible refine fit_i64 ?_); omega) | ((with_reducible refine fit_i32 ?_); omega) | ((with_reducible refine fit_u64 ?_); omega) | ((with_reducible refine fit_u8 ?_); omega) | ((with_reducible refine fit_u32 ?_); omega) | ((with_reducible refine fit_u16 ?_); omega) | rfl); rfl)
      | (apply wl_boolish tt_ok; rfl; rfl; (first | (with_reducible first | exact bb_not_t | exact bb_not_f | exact bb_eq_t _ | exact bb_eq_f _ | exact bb_t_eq _ | exact bb_f_eq _ | exact bb_ne_t _ | exact bb_ne_f _ | exact bb_t_ne _ | exact bb_f_ne _ | exact bb_same _ | exact bb_nsame _ | exact bi_same _ | exact bi_nsame _) | rfl); rfl)
      | (refine wl_pure tt_ok rfl rfl ?_)
      | (apply wl_load tt_ok; rfl; (repeat (first | exact List.Mem.head _ | apply List.Mem.tail)); rfl; rfl)
      | ((apply wl_spL Try.call8; rfl; rfl; rfl; exact qNew _; rfl); rintro _ _ ⟨b, rfl, rfl⟩; have hQ := qst_new b 5; generalize [QB b 5 (.slice none 0 0) 0] = L0 at hQ ⊢)
      | ((apply wl_spL Try.call10; rfl; rfl; rfl; exact qAdd _ _ _ _ _ _ (by assumption) (by omega) (by simp) (by omega) (by omega); rfl); rintro _ _ ⟨rfl, hQ⟩; simp [qNext] at hQ)
      | ((apply wl_rd Try.call9; rfl; rfl; rfl; exact sub_refl; exact qKnownS _ _ _ _ (by assumption) (by omega) (by simp)); rfl)
      | ((apply wl_rd Try.call12; rfl; rfl; rfl; exact sub_refl; exact qGuess _ _ _ _ _ (by assumption) (by omega) (by simp) (by omega)); rfl)
      | ((apply wl_rd Try.call11; rfl; rfl; rfl; exact sub_refl; exact qat_any _ _ _ _ _ _ (by assumption) (by omega) (by simp) (by omega)); rfl)
      | ((apply wl_rd Try.call13; rfl; rfl; rfl; exact sub_refl; exact qno_any _ _ _ _ _ (by assumption) (by omega) (by simp) (by omega)); rfl)
      | (apply wl_store tt_ok; rfl; (repeat (first | exact Upd.here | apply Upd.there)); rfl; rfl; rfl; rfl; rfl; rfl)
      | (refine wl_box rfl rfl rfl (fun _ => ?_))
      | (apply wl_build1 tt_ok; rfl; rfl; rfl; rfl; rfl; intro _)
      | (refine wl_alloc tt_ok rfl rfl (fun _ => ?_))
      | (apply wl_yes; rfl; rfl; (with_reducible rfl))
      | (apply wl_no_t; rfl; rfl; (with_reducible rfl); rfl)
      | (apply wl_no_f; rfl; rfl; (with_reducible rfl); rfl)
      | (apply wl_no_u; rfl; rfl; rfl)
      | (refine wl_guard rfl rfl (fun hc => ?_) (fun hc => ?_) <;> (first | (exfalso; contradiction) | ((try simp only [decide_eq_true_eq, decide_eq_false_iff_not, beq_iff_eq, bne_iff_ne, beq_eq_false_iff_ne, bne_eq_false_iff_eq, ne_eq, Decidable.not_not, Bool.not_eq_true', Bool.not_eq_false', Int.not_lt, Int.not_le] at hc); first | (exfalso; omega) | (exfalso; revert hc; decide) | skip)))
      | (with_reducible refine wl_nil ?_))
    | ((with_reducible (apply wc_id)); first
      | (with_reducible refine wc_seq ?_)
      | (with_reducible refine wc_region ?_)
      | (with_reducible refine wc_ret ?_)
      | (refine wc_cond rfl (fun hc => ?_) (fun hc => ?_) <;> (first | (exfalso; contradiction) | ((try simp only [decide_eq_true_eq, decide_eq_false_iff_not, beq_iff_eq, bne_iff_ne, beq_eq_false_iff_ne, bne_eq_false_iff_eq, ne_eq, Decidable.not_not, Bool.not_eq_true', Bool.not_eq_false', Int.not_lt, Int.not_le] at hc); first | (exfalso; omega) | (exfalso; revert hc; decide) | skip)))
      | (with_reducible refine wc_block ?_)
      | (with_reducible refine wc_skip ?_)
      | (with_reducible refine wc_exit ?_)
      | (with_reducible refine wc_quiet (by kernel_rfl) (by kernel_rfl) ?_))
    | ((with_reducible (apply wx_id)); first
      | (with_reducible refine wx_then ?_)
      | (with_reducible refine wx_block ?_)
      | (with_reducible refine wx_block_exit ?_)
      | (with_reducible refine wx_block_other (by rfl) ?_)
      | (with_reducible refine wx_block_ret ?_)
      | (with_reducible refine wx_then_exit ?_)
      | (with_reducible refine wx_then_ret ?_)
      | ((with_reducible (apply wx_pf tt_ok)); (first | exact .inl rfl | exact .inr rfl); (first | exact Try.results7 | rfl); (repeat (first | exact Res.nil | (apply Res.tmp; rfl) | (apply Res.cell; rfl; (repeat (first | exact List.Mem.head _ | apply List.Mem.tail)); rfl))))
      | ((with_reducible (apply wx_rd tt_ok)); (first | exact .inl rfl | exact .inr rfl); (first | exact Try.results7 | rfl); (repeat (first | exact Res.nil | (apply Res.tmp; rfl) | (apply Res.cell; rfl; (repeat (first | exact List.Mem.head _ | apply List.Mem.tail)); rfl))); (first | exact sub_refl | exact sub_drop1 | exact sub_drop2 | exact sub_keeps (ps := [0]) rfl | exact sub_keeps (ps := [1]) rfl | exact sub_keeps (ps := [2]) rfl | exact sub_keeps (ps := [3]) rfl | exact sub_keeps (ps := [0, 0]) rfl | exact sub_keeps (ps := [1, 0]) rfl | exact sub_keeps (ps := [1, 1]) rfl | exact sub_keeps (ps := [0, 1]) rfl | exact sub_keeps (ps := [2, 0]) rfl | exact sub_keeps (ps := [0, 2]) rfl | exact sub_keeps (ps := [2, 1]) rfl | exact sub_keeps (ps := [1, 2]) rfl | exact sub_keeps (ps := [2, 2]) rfl); (first | rfl | skip)))
    | ((with_reducible (apply wq_id)); first
      | (apply wq_arith tt_ok; rfl; rfl; (first | ((with_reducible refine fit_div_i64 ?_ ?_) <;> omega) | ((with_reducible refine fit_div_i32 ?_ ?_) <;> omega) | ((with_reducible refine fit_div_u64 ?_ ?_) <;> omega) | ((with_reducible refine fit_i64 ?_); omega) | ((with_reducible refine fit_i32 ?_); omega) | ((with_reducible refine fit_u64 ?_); omega) | ((with_reducible refine fit_u8 ?_); omega) | ((with_reducible refine fit_u32 ?_); omega) | ((with_reducible refine fit_u16 ?_); omega) | rfl); rfl)
      | (apply wq_boolish tt_ok; rfl; rfl; (first | (with_reducible first | exact bb_not_t | exact bb_not_f | exact bb_eq_t _ | exact bb_eq_f _ | exact bb_t_eq _ | exact bb_f_eq _ | exact bb_ne_t _ | exact bb_ne_f _ | exact bb_t_ne _ | exact bb_f_ne _ | exact bb_same _ | exact bb_nsame _ | exact bi_same _ | exact bi_nsame _) | rfl); rfl)
      | (refine wq_pure tt_ok rfl rfl ?_)
      | (apply wq_load tt_ok; rfl; (repeat (first | exact List.Mem.head _ | apply List.Mem.tail)); rfl; rfl)
      | ((apply wl_spL Try.call8; rfl; rfl; rfl; exact qNew _; rfl); rintro _ _ ⟨b, rfl, rfl⟩; have hQ := qst_new b 5; generalize [QB b 5 (.slice none 0 0) 0] = L0 at hQ ⊢)
      | ((apply wl_spL Try.call10; rfl; rfl; rfl; exact qAdd _ _ _ _ _ _ (by assumption) (by omega) (by simp) (by omega) (by omega); rfl); rintro _ _ ⟨rfl, hQ⟩; simp [qNext] at hQ)
      | ((apply wl_rd Try.call9; rfl; rfl; rfl; exact sub_refl; exact qKnownS _ _ _ _ (by assumption) (by omega) (by simp)); rfl)
      | ((apply wl_rd Try.call12; rfl; rfl; rfl; exact sub_refl; exact qGuess _ _ _ _ _ (by assumption) (by omega) (by simp) (by omega)); rfl)
      | ((apply wl_rd Try.call11; rfl; rfl; rfl; exact sub_refl; exact qat_any _ _ _ _ _ _ (by assumption) (by omega) (by simp) (by omega)); rfl)
      | ((apply wl_rd Try.call13; rfl; rfl; rfl; exact sub_refl; exact qno_any _ _ _ _ _ (by assumption) (by omega) (by simp) (by omega)); rfl)
      | (apply wq_yes; rfl; rfl; (with_reducible rfl))
      | (apply wq_no_t; rfl; rfl; (with_reducible rfl); rfl)
      | (apply wq_no_f; rfl; rfl; (with_reducible rfl); rfl)
      | (apply wq_no_u; rfl; rfl; rfl)
      | (refine wq_guard rfl rfl (fun hc => ?_) (fun hc => ?_) <;> (first | (exfalso; contradiction) | ((try simp only [decide_eq_true_eq, decide_eq_false_iff_not, beq_iff_eq, bne_iff_ne, beq_eq_false_iff_ne, bne_eq_false_iff_eq, ne_eq, Decidable.not_not, Bool.not_eq_true', Bool.not_eq_false', Int.not_lt, Int.not_le] at hc); first | (exfalso; omega) | (exfalso; revert hc; decide) | skip)))
      | (with_reducible refine wq_nil ?_)))
  all_goals first | rfl | (exfalso; revert hc; decide) | decide

end Go.Proofs.Ytfjmhnfaoifehaa
