/-
  Chapter 6 (input): the law InputBits, of every input: each of the 256 is reckoned.
-/
import Derived.Test.YtolmilcdhphnhaaRows
import Derived.Test.YtolmilcdhphnhaaWalk
namespace Go.Proofs.Ytolmilcdhphnhaa
open Go.Proofs.Ytolmilcdhphnhaa.Eng Go.RowKit Go.ChangeShapes Go.WideShapes Go.ChangeAt
set_option linter.unusedSimpArgs false
set_option linter.unusedVariables false
set_option maxHeartbeats 2000000
set_option maxRecDepth 20000

theorem inputBits_all : ∀ k : Fin 256, m_hindcastlaw06_InputBits 300 (k.val : Int) = some true := by decide +kernel
theorem inputBits_pure (i : Int) (h : 0 ≤ i ∧ i ≤ 255) : m_hindcastlaw06_InputBits 300 i = some true := by
  obtain ⟨k, rfl⟩ := Int.eq_ofNat_of_zero_le h.1
  exact inputBits_all ⟨k, by omega⟩
theorem inputBits_walk (W : World) (v0 : Value) (R0 : Rdw TT W 8 35 [v0]) : Calls Try.prog 7 #[v0] W fun e w' => e = .returned (.bool true) ∧ Inv W [] w' [] := by
  obtain ⟨i, rfl, wf⟩ := rd_cell R0 rfl
  exact (k_hindcastlaw06_InputBits (inputBits_pure i (wf_u8 wf))).run W trivial

set_option maxRecDepth 100000 in
theorem inputBits_lifted (os : Os) (started : os.Started) (H : Type) (enc : TypeId × Value → H) :
    ReturnsInHanded {} Try.checked os 7 .any (Rows.inputBitsSpec.pre6 enc Try.prog Try.f7 Rows.inputBitsRow.domain false) (Rows.inputBitsSpec.post enc Try.prog Try.f7 false true false false) := by
  refine returnsInHanded_of_change_sized (C := Try.checked) (by kernel_rfl) started (by kernel_rfl) Try.func7
    (ChangeSpec.witness6 (enc := enc) (C := Try.checked) false ⟨#[], #[.int .u8 0], []⟩ 8 (by kernel_rfl) (by kernel_rfl) (by kernel_rfl) (by kernel_rfl)) ?_
  intro W base args ds gs before hval0 hW hcnd hsz0 _
  have hval : ∀ (j : Nat) t v, Try.f7.params[j]? = some t → args[j]? = some v → Value.okWide Try.prog W .any base t v := hval0
  have hW' := hW
  obtain ⟨p, q, hA0, hV, rfl, hfz, hnd⟩ := hW
  have hA : DataW.TrodAll enc Try.prog W 0 (fun _ => true) true Try.f7.params.toList args.toList ds p := hA0
  obtain ⟨rfl, rfl⟩ := trodVars_none hV
  have hsz : ∀ x ∈ DataW.weightsEach Try.prog Try.f7.params.toList ds, x ≤ maxB := by
    have h1 : (DataW.weightsEach Try.prog (Try.f7.params.toList ++ []) (ds ++ [])).all (· ≤ reachBytes) = true := hsz0
    simp only [List.append_nil] at h1
    intro x hx; have h2 := List.all_eq_true.1 h1 x hx; simp only [decide_eq_true_eq] at h2; exact h2
  rw [Try.params7] at hA hval hsz
  have hR := rdw_all tt_ok ctt_ok (closed_of tt_closed) (fun _ => rfl) 8 hA hsz
  have hback := fun (W2 : World) (hb : Below W.heap.size W W2) => trodAll_below (by kernel_rfl : laidOutB Try.prog = true) hb (by kernel_rfl) hA
  obtain ⟨v0, vs0, d0, ds0, p0, q0, hargs, rfl, rfl, h0, r0⟩ := trodAll_cons hA
  obtain ⟨rfl, rfl, rfl⟩ := trodAll_nil r0
  obtain rfl : args = #[v0] := by cases args; simp_all
  have R0 := hR 0 35 v0 rfl rfl
  have e0 := val_one tt_ok (t := 35) rfl (by intro h; cases h) rfl (hval 0 35 v0 rfl rfl)
  rw [e0] at R0
  clear hval hval0 hsz hsz0 hR hA0
  refine (inputBits_walk W v0 R0).mono fun e W2 ⟨he, hI⟩ => ?_
  subst he
  exact ⟨_, rfl, _, _, _, [], _, [], hW', trodAll_mk1 (shut_bool Try.underlying4 _), hback _ (below_of_inv hI), rfl, (below_of_inv hI).frame _, fun h => by cases h⟩

theorem inputBits_holds : Rows.InputBitsSaid :=
  OpenClaim.holds_of_wide 7 Try.f7 rfl rfl rfl rfl rfl rfl rfl ⟨rfl, rfl, rfl, rfl, rfl⟩ rfl rfl rfl rfl rfl (by kernel_rfl) Try.func7 (by kernel_rfl)
    (of_decide_eq_true (by kernel_rfl)) (by unfold Func.isWrapper; first | (rw [if_pos (by decide +kernel)]; kernel_rfl) | (rw [if_neg (by decide +kernel)]; exact ⟨rfl, rfl⟩))
    (fun os started H enc _ => inputBits_lifted os started H enc)

end Go.Proofs.Ytolmilcdhphnhaa
