/-
  Chapter 06: the law InputUnpacks: the list that any bytes are, or why they are none.
-/
import Derived.Test.YtolmilcdhphnhaaInputPure
import Derived.Test.YtolmilcdhphnhaaRows
import Derived.Test.YtolmilcdhphnhaaWalk
namespace Go.Proofs.Ytolmilcdhphnhaa
open Go.Proofs.Ytolmilcdhphnhaa.Eng Go.RowKit Go.ChangeShapes Go.WideShapes Go.ChangeAt
set_option linter.unusedSimpArgs false
set_option linter.unusedVariables false
set_option maxHeartbeats 2000000
set_option maxRecDepth 20000

theorem unpacks_pure {F : Nat} (hF : 5000 ≤ F) (hwk : m_hindcastlaw06_works F = some true) (S : List UInt8) (p : Int) : m_hindcastlaw06_InputUnpacks F S p = some true := by
  simp only [m_hindcastlaw06_InputUnpacks, hwk]
  by_cases h1 : (2000 : Int) < (S.length : Int)
  · simp only [decide_eq_true h1, cond_true, Option.bind_some]
  · have u1 := unp_of (F := F) (S := S) (p1 := p) (by omega) (by omega)
    have u2 := runp_of (F := F) (S := S) (p1 := p) (by omega) (by omega)
    have hle : (unpv S (roomOf p)).1.length ≤ 4096 := unpv_short (room_le p)
    have hs := same_of (F := F) (l := (unpv S (roomOf p)).1) (by omega) (by omega)
    simp only [decide_eq_false h1, cond_false, u1, u2, Option.bind_some, hs, beq_self_eq_true, cond_true]

theorem unpacks_works : m_hindcastlaw06_works 5000 = some true := by kernel_rfl

theorem inputUnpacks_walk (W : World) (v0 v1 : Value) (R0 : Rdw TT W 8 9 [v0]) (R1 : Rdw TT W 8 3 [v1]) : Calls Try.prog 3 #[v0, v1] W fun e w' => e = .returned (.bool true) ∧ Inv W [] w' [] := by
  obtain ⟨s, hs, _⟩ := rd_str R0 rfl
  obtain rfl : v0 = .string s := List.cons.inj hs |>.1
  obtain ⟨z, rfl, wz⟩ := rd_cell R1 rfl
  exact (k_hindcastlaw06_InputUnpacks (p0 := s.data.toList) (unpacks_pure (F := 5000) (by omega) unpacks_works _ _)).run W trivial

set_option maxRecDepth 100000 in
theorem inputUnpacks_lifted (os : Os) (started : os.Started) (H : Type) (enc : TypeId × Value → H) :
    ReturnsInHanded {} Try.checked os 3 .any (Rows.inputUnpacksSpec.pre6 enc Try.prog Try.f3 Rows.inputUnpacksRow.domain false) (Rows.inputUnpacksSpec.post enc Try.prog Try.f3 false true false false) := by
  refine returnsInHanded_of_change_sized (C := Try.checked) (by kernel_rfl) started (by kernel_rfl) Try.func3
    (ChangeSpec.witness6 (enc := enc) (C := Try.checked) false ⟨#[], #[.string ByteArray.empty, .int .i64 0], []⟩ 8 (by kernel_rfl) (by kernel_rfl) (by kernel_rfl) (by kernel_rfl)) ?_
  intro W base args ds gs before hval0 hW hcnd hsz0 _
  have hval : ∀ (j : Nat) t v, Try.f3.params[j]? = some t → args[j]? = some v → Value.okWide Try.prog W .any base t v := hval0
  have hW' := hW
  obtain ⟨p, q, hA0, hV, rfl, hfz, hnd⟩ := hW
  have hA : DataW.TrodAll enc Try.prog W 0 (fun _ => true) true Try.f3.params.toList args.toList ds p := hA0
  obtain ⟨rfl, rfl⟩ := trodVars_none hV
  have hsz : ∀ x ∈ DataW.weightsEach Try.prog Try.f3.params.toList ds, x ≤ maxB := by
    have h1 : (DataW.weightsEach Try.prog (Try.f3.params.toList ++ []) (ds ++ [])).all (· ≤ reachBytes) = true := hsz0
    simp only [List.append_nil] at h1
    intro x hx; have h2 := List.all_eq_true.1 h1 x hx; simp only [decide_eq_true_eq] at h2; exact h2
  rw [Try.params3] at hA hval hsz
  have hR := rdw_all tt_ok ctt_ok (closed_of tt_closed) (fun _ => rfl) 8 hA hsz
  have hback := fun (W2 : World) (hb : Below W.heap.size W W2) => trodAll_below (by kernel_rfl : laidOutB Try.prog = true) hb (by kernel_rfl) hA
  obtain ⟨v0, vs0, d0, ds0, p0, q0, hargs, rfl, rfl, h0, r0⟩ := trodAll_cons hA
  obtain ⟨v1, vs1, d1, ds1, p1, q1, rfl, rfl, rfl, h1, r1⟩ := trodAll_cons r0
  obtain ⟨rfl, rfl, rfl⟩ := trodAll_nil r1
  obtain rfl : args = #[v0, v1] := by cases args; simp_all
  have R0 := hR 0 9 v0 rfl rfl
  have e0 := val_one tt_ok (t := 9) rfl (by intro h; cases h) rfl (hval 0 9 v0 rfl rfl)
  rw [e0] at R0
  have R1 := hR 1 3 v1 rfl rfl
  have e1 := val_one tt_ok (t := 3) rfl (by intro h; cases h) rfl (hval 1 3 v1 rfl rfl)
  rw [e1] at R1
  clear hval hval0 hsz hsz0 hR hA0
  refine (inputUnpacks_walk W v0 v1 R0 R1).mono fun e W2 ⟨he, hI⟩ => ?_
  subst he
  exact ⟨_, rfl, _, _, _, [], _, [], hW', trodAll_mk1 (shut_bool Try.underlying4 _), hback _ (below_of_inv hI), rfl, (below_of_inv hI).frame _, fun h => by cases h⟩

theorem inputUnpacks_holds : Rows.InputUnpacksSaid :=
  OpenClaim.holds_of_wide 3 Try.f3 rfl rfl rfl rfl rfl rfl rfl ⟨rfl, rfl, rfl, rfl, rfl⟩ rfl rfl rfl rfl rfl (by kernel_rfl) Try.func3 (by kernel_rfl)
    (of_decide_eq_true (by kernel_rfl)) (by unfold Func.isWrapper; first | (rw [if_pos (by decide +kernel)]; kernel_rfl) | (rw [if_neg (by decide +kernel)]; exact ⟨rfl, rfl⟩))
    (fun os started H enc _ => inputUnpacks_lifted os started H enc)

end Go.Proofs.Ytolmilcdhphnhaa
