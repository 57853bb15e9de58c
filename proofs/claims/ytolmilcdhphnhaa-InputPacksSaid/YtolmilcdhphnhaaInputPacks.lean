/-
  Chapter 06: the law InputPacks: the bytes of any list, and what is foretold by it, are the document's.
-/
import Derived.Test.YtolmilcdhphnhaaInputPure
import Derived.Test.YtolmilcdhphnhaaRows
import Derived.Test.YtolmilcdhphnhaaWalk
namespace Go.Proofs.Ytolmilcdhphnhaa
open Go.Proofs.Ytolmilcdhphnhaa.Eng Go.RowKit Go.ChangeShapes Go.WideShapes Go.ChangeAt
set_option linter.unusedSimpArgs false
set_option linter.unusedVariables false
set_option maxHeartbeats 2000000
set_option maxRecDepth 20000

variable {F : Nat}
theorem rpredict_loop {l : List Int} (hl : l.length ≤ 100000) : ∀ (m i : Nat) (x : Int), l.length - i < m → i ≤ l.length → (i = 0 → x = 0) → (0 < i → l[i - 1]? = some x) →
    m_hindcastref06_Predict_L8 F l m x (i : Int) = some (l.getLast?.getD 0)
  | 0, i, x, hm, _, _, _ => by omega
  | m + 1, i, x, hm, hi, h0, hx => by
    rw [m_hindcastref06_Predict_L8.eq_2]
    by_cases h1 : i < l.length
    · have hy : l[i]? = some l[i] := List.getElem?_eq_getElem h1
      have hw : IntKind.wrap .i64 ((i : Int) + 1) = ((i + 1 : Nat) : Int) := by rw [wr_i64 ⟨by omega, by omega⟩]; omega
      have ih := rpredict_loop hl m (i + 1) l[i] (by omega) (by omega) (by omega) (fun _ => by simp)
      simp only [decide_eq_true (show (i : Int) < (l.length : Int) by omega), cond_true, getI_nat, hy, Option.bind_some, hw, ih]
    · simp only [decide_eq_false (show ¬ (i : Int) < (l.length : Int) by omega), cond_false]
      rcases Nat.eq_zero_or_pos i with h | h
      · have : l = [] := List.eq_nil_of_length_eq_zero (by omega)
        rw [this, h0 h]; rfl
      · have := hx h
        rw [List.getLast?_eq_getElem?, show l.length - 1 = i - 1 by omega, this]; rfl

theorem packs_pure (hF : 5000 ≤ F) (hwk : m_hindcastlaw06_works F = some true) (l : List Int) (h0 : ∀ x ∈ l, 0 ≤ x ∧ x ≤ 255) : m_hindcastlaw06_InputPacks F l = some true := by
  simp only [m_hindcastlaw06_InputPacks, hwk]
  by_cases h1 : (1500 : Int) < (l.length : Int)
  · simp only [decide_eq_true h1, cond_true, Option.bind_some]
  · have ha : appI ([] : List Int) l = some l := by rw [appI_of (by simp; omega)]; rfl
    have p1 := pack_of (F := F) (l := l) (fun x hx => (h0 x hx).1) (by omega) (by omega) (by omega)
    have p2 := rpack_of (F := F) (l := l) (fun x hx => (h0 x hx).1) (by omega) (by omega) (by omega)
    have hs := same_of (F := F) (l := l) (by omega) (by omega)
    have q2 : m_hindcastref06_Predict F l = some (l.getLast?.getD 0) := by
      have h := rpredict_loop (F := F) (l := l) (by omega) F 0 0 (by omega) (by omega) (fun _ => rfl) (fun h => by omega)
      have h' : m_hindcastref06_Predict_L8 F l F 0 0 = _ := h
      simp only [m_hindcastref06_Predict, h', Option.bind_some]
    have q1 : m_input_Predict F l = some (l.getLast?.getD 0) := by
      simp only [m_input_Predict]
      cases l with
      | nil => rfl
      | cons x l =>
        rw [last_of (by simp) (by omega), beq_eq_false_iff_ne.2 (by simp; omega)]
        simp only [cond_false]
        rw [List.getLast?_eq_some_getLast (by simp)]
        rfl
    simp only [decide_eq_false h1, cond_false, ha, p1, p2, q1, q2, hs, Option.bind_some, beq_self_eq_true, cond_true]

theorem packs_works : m_hindcastlaw06_works 5000 = some true := by kernel_rfl

theorem inputPacks_walk (W : World) (v0 : Value) (R0 : Rdw TT W 8 23 [v0]) : Calls Try.prog 8 #[v0] W fun e w' => e = .returned (.bool true) ∧ Inv W [] w' [] := by
  obtain ⟨a, n, cap, xs, rfl, hn, hc, _, hr, hok⟩ := rd_list (enc := e1 .u8) (ok := fun x : Int => 0 ≤ x ∧ x ≤ 255) R0 rfl rfl (e1_len _) (fun es _ h => by
    obtain ⟨x, hx, wx⟩ := rd_int h rfl
    exact ⟨x, hx, wf_u8 wx⟩)
  exact (k_hindcastlaw06_InputPacks hn hc (packs_pure (F := 5000) (by omega) packs_works _ hok)).run W hr

set_option maxRecDepth 100000 in
theorem inputPacks_lifted (os : Os) (started : os.Started) (H : Type) (enc : TypeId × Value → H) :
    ReturnsInHanded {} Try.checked os 8 .any (Rows.inputPacksSpec.pre6 enc Try.prog Try.f8 Rows.inputPacksRow.domain false) (Rows.inputPacksSpec.post enc Try.prog Try.f8 false true false false) := by
  refine returnsInHanded_of_change_sized (C := Try.checked) (by kernel_rfl) started (by kernel_rfl) Try.func8
    (ChangeSpec.witness6 (enc := enc) (C := Try.checked) false ⟨#[], #[.slice none 0 0], []⟩ 8 (by kernel_rfl) (by kernel_rfl) (by kernel_rfl) (by kernel_rfl)) ?_
  intro W base args ds gs before hval0 hW hcnd hsz0 _
  have hval : ∀ (j : Nat) t v, Try.f8.params[j]? = some t → args[j]? = some v → Value.okWide Try.prog W .any base t v := hval0
  have hW' := hW
  obtain ⟨p, q, hA0, hV, rfl, hfz, hnd⟩ := hW
  have hA : DataW.TrodAll enc Try.prog W 0 (fun _ => true) true Try.f8.params.toList args.toList ds p := hA0
  obtain ⟨rfl, rfl⟩ := trodVars_none hV
  have hsz : ∀ x ∈ DataW.weightsEach Try.prog Try.f8.params.toList ds, x ≤ maxB := by
    have h1 : (DataW.weightsEach Try.prog (Try.f8.params.toList ++ []) (ds ++ [])).all (· ≤ reachBytes) = true := hsz0
    simp only [List.append_nil] at h1
    intro x hx; have h2 := List.all_eq_true.1 h1 x hx; simp only [decide_eq_true_eq] at h2; exact h2
  rw [Try.params8] at hA hval hsz
  have hR := rdw_all tt_ok ctt_ok (closed_of tt_closed) (fun _ => rfl) 8 hA hsz
  have hback := fun (W2 : World) (hb : Below W.heap.size W W2) => trodAll_below (by kernel_rfl : laidOutB Try.prog = true) hb (by kernel_rfl) hA
  obtain ⟨v0, vs0, d0, ds0, p0, q0, hargs, rfl, rfl, h0, r0⟩ := trodAll_cons hA
  obtain ⟨rfl, rfl, rfl⟩ := trodAll_nil r0
  obtain rfl : args = #[v0] := by cases args; simp_all
  have R0 := hR 0 23 v0 rfl rfl
  have e0 := val_one tt_ok (t := 23) rfl (by intro h; cases h) rfl (hval 0 23 v0 rfl rfl)
  rw [e0] at R0
  clear hval hval0 hsz hsz0 hR hA0
  refine (inputPacks_walk W v0 R0).mono fun e W2 ⟨he, hI⟩ => ?_
  subst he
  exact ⟨_, rfl, _, _, _, [], _, [], hW', trodAll_mk1 (shut_bool Try.underlying4 _), hback _ (below_of_inv hI), rfl, (below_of_inv hI).frame _, fun h => by cases h⟩

theorem inputPacks_holds : Rows.InputPacksSaid :=
  OpenClaim.holds_of_wide 8 Try.f8 rfl rfl rfl rfl rfl rfl rfl ⟨rfl, rfl, rfl, rfl, rfl⟩ rfl rfl rfl rfl rfl (by kernel_rfl) Try.func8 (by kernel_rfl)
    (of_decide_eq_true (by kernel_rfl)) (by unfold Func.isWrapper; first | (rw [if_pos (by decide +kernel)]; kernel_rfl) | (rw [if_neg (by decide +kernel)]; exact ⟨rfl, rfl⟩))
    (fun os started H enc _ => inputPacks_lifted os started H enc)

end Go.Proofs.Ytolmilcdhphnhaa
