/-
  Chapter 08: the law StateTakes: the state that any bytes are, or why they are none, is the document's.
-/
import Derived.Test.YtekplmhmppdpcaaDoorStateModel
import Derived.Test.YtekplmhmppdpcaaDoorStateRow
import Derived.Test.YtekplmhmppdpcaaDoorCards
import Derived.Test.YtekplmhmppdpcaaDoorTie
import Derived.Test.YtekplmhmppdpcaaDoorLaid
import Derived.Test.YtekplmhmppdpcaaDoorWalk
import Derived.Deep.DeepHandedRow
namespace Go.Proofs.YtekplmhmppdpcaaDoor
open Go.Proofs.YtekplmhmppdpcaaDoor.Eng Go.RowKit Go.ChangeShapes Go.WideShapes Go.ChangeAt
set_option linter.unusedSimpArgs false
set_option linter.unusedVariables false
set_option maxHeartbeats 2000000
set_option maxRecDepth 20000

variable {F : Nat}

theorem takes_pure (hF : 200 ≤ F) (hwk : m_hindcastlaw08_works F = some true) (S : List UInt8) : m_hindcastlaw08_StateTakes F S = some true := by
  simp only [m_hindcastlaw08_StateTakes, hwk]
  by_cases h1 : (1000 : Int) < (S.length : Int)
  · simp only [decide_eq_true h1, cond_true, Option.bind_some]
  · have t1 := take_of (F := F) (S := S) (by omega) (by omega)
    have t2 := rtake_of (F := F) (S := S) (by omega) (by omega)
    have hl : (takev S).1.Shots.length ≤ 8 := takev_few S
    have hs := rsame_of (F := F) (a := (takev S).1) (b := (takev S).1) (by omega) (by omega)
    rw [stE_refl] at hs
    simp only [decide_eq_false h1, cond_false, t1, t2, hs, Option.bind_some, beq_self_eq_true, cond_true]

theorem takes_works : m_hindcastlaw08_works 300 = some true := by kernel_rfl

theorem stateTakes_walk (W : World) (hG : Rds W [] [] (some ⟨0, 0, none⟩) (flat (fun _ : Unit => gl_state_playerBounds) [()]) ∧ Rds W [] [] (some ⟨1, 0, none⟩) (flat (fun _ : Unit => gl_state_shotBounds) [()]))
    (v0 : Value) (R0 : Rdw TT W 8 9 [v0]) :
    Calls Tryd.prog 4 #[v0] W fun e w' => e = .returned (.bool true) ∧ Inv W [] w' [] := by
  obtain ⟨s, hs, _⟩ := rd_str R0 rfl
  obtain rfl : v0 = .string s := List.cons.inj hs |>.1
  exact (k_hindcastlaw08_StateTakes (p0 := s.data.toList) (takes_pure (F := 300) (by omega) takes_works _)).run W hG

noncomputable def stateTakes_world (os : Os) : World :=
  { World.holding Tryd.prog os ⟨#[], #[], []⟩ with heap := ((World.holding Tryd.prog os ⟨#[], #[], []⟩).heap.modify 0 fun | .cells _ t frozen => .cells gl_state_playerBounds.toArray t frozen | o => o).modify 1 fun | .cells _ t frozen => .cells gl_state_shotBounds.toArray t frozen | o => o }
theorem stateTakes_laid_met (os : Os) : laidMet Tryd.prog Rows.stateTakesRow.laid ((stateTakes_world os).forCall (fun _ _ => 0) ⟨#[], #[.string ByteArray.empty], []⟩).memory := laidMet_of_run' 8 (by kernel_rfl) (by kernel_rfl)
theorem stateTakes_reads (os : Os) {H : Type} (enc : TypeId × Value → H) : ∃ places, DataW.whole enc Tryd.prog ((stateTakes_world os).forCall (fun _ _ => 0) ⟨#[], #[.string ByteArray.empty], []⟩).memory Tryd.f4.params.toList Rows.stateTakesSpec.vars false (#[.string ByteArray.empty] : Array Value).toList 8 = some ([.lit (.string [])], [], places) := ⟨[], by kernel_rfl⟩
set_option maxRecDepth 100000 in
theorem stateTakes_lifted (os : Os) (started : os.Started) (H : Type) (enc : TypeId × Value → H) (F : Stop.Interp) :
    ReturnsInHanded {} Tryd.checked os 4 .any ((OpenSpec.ofChange Rows.stateTakesSpec).preRow enc Tryd.prog Tryd.f4 Rows.stateTakesRow.domain false Rows.stateTakesRow.laid) (((OpenSpec.ofChange Rows.stateTakesSpec).at F).post enc Tryd.prog Tryd.f4 false true false false) := by
  obtain ⟨places, hx⟩ := stateTakes_reads os enc
  refine returnsInHanded_of_row (C := Tryd.checked) (s := OpenSpec.ofChange Rows.stateTakesSpec) (by kernel_rfl) started (by kernel_rfl) Tryd.func4
    (witness_row_at (enc := enc) (C := Tryd.checked) false (stateTakes_world os) #[.string ByteArray.empty] rfl (by kernel_rfl) (by kernel_rfl) (by kernel_rfl)
      (OpenSpec.preRow_of_cond 8 hx (by kernel_rfl) (fun k hk => by cases hk) (by kernel_rfl) (stateTakes_laid_met os))) ?_
  intro W base args ds gs before hval0 hW hcnd hk0 hsz0 hL _ _
  have hG := laid_cells hL
  have hval : ∀ (j : Nat) t v, Tryd.f4.params[j]? = some t → args[j]? = some v → Value.okWide Tryd.prog W .any base t v := hval0
  have hW' := hW
  obtain ⟨p, q, hA0, hV, rfl, hfz, hnd⟩ := hW
  have hA : DataW.TrodAll enc Tryd.prog W 0 (fun _ => true) true Tryd.f4.params.toList args.toList ds p := hA0
  obtain ⟨rfl, rfl⟩ := trodVars_none hV
  have hsz : ∀ x ∈ DataW.weightsEach Tryd.prog Tryd.f4.params.toList ds, x ≤ maxB := by
    have h1 : (DataW.weightsEach Tryd.prog (Tryd.f4.params.toList ++ []) (ds ++ [])).all (· ≤ reachBytes) = true := hsz0
    simp only [List.append_nil] at h1
    intro x hx; have h2 := List.all_eq_true.1 h1 x hx; simp only [decide_eq_true_eq] at h2; exact h2
  rw [Tryd.params4] at hA hval hsz
  have hR := rdw_all tt_ok ctt_ok (closed_of tt_closed) (fun _ => rfl) 8 hA hsz
  have hback := fun (W2 : World) (hb : Below W.heap.size W W2) => trodAll_below (by kernel_rfl : laidOutB Tryd.prog = true) hb (by kernel_rfl) hA
  obtain ⟨v0, vs0, d0, ds0, p0, q0, hargs, rfl, rfl, h0, r0⟩ := trodAll_cons hA
  obtain ⟨rfl, rfl, rfl⟩ := trodAll_nil r0
  obtain rfl : args = #[v0] := by cases args; simp_all
  have R0 := hR 0 9 v0 rfl rfl
  have e0 := val_one tt_ok (t := 9) rfl (by intro h; cases h) rfl (hval 0 9 v0 rfl rfl)
  rw [e0] at R0
  clear hval hval0 hsz hsz0 hR hA0
  refine (stateTakes_walk W hG v0 R0).mono fun e W2 ⟨he, hI⟩ => ?_
  subst he
  exact ⟨_, rfl, _, _, _, [], _, [], hW', trodAll_mk1 (shut_bool Tryd.underlying4 _), hback _ (below_of_inv hI), rfl, (below_of_inv hI).frame _, fun h => by cases h⟩

theorem stateTakes_said : Rows.StateTakesSaid :=
  OpenClaim.holds_of_cond 4 Tryd.f4 rfl rfl rfl rfl rfl rfl rfl ⟨rfl, rfl, rfl, rfl, rfl⟩ rfl rfl rfl rfl rfl (by kernel_rfl) Tryd.func4 (by kernel_rfl)
    (of_decide_eq_true (by kernel_rfl)) (by unfold Func.isWrapper; first | (rw [if_pos (by decide +kernel)]; kernel_rfl) | (rw [if_neg (by decide +kernel)]; exact ⟨rfl, rfl⟩))
    (fun os started H enc _ F => by rw [OpenClaim.pre_eq_preRow]; exact stateTakes_lifted os started H enc F)

theorem stateTakes_plain (f : FuncId) (fn : Func) (hf : Tryd.pinned.checked.prog.funcNamed "hindcast/hindcastlaw08.StateTakes" = some f) (hfn : Tryd.pinned.checked.prog.funcs[f]? = some fn) :
    false = Tryd.pinned.checked.prog.looks [] ∧ ∀ (j : Nat) t, fn.params[j]? = some t → Tryd.pinned.checked.prog.wantsStandIn t = false := by
  obtain rfl : f = 4 := Option.some.inj ((show Tryd.prog.funcNamed "hindcast/hindcastlaw08.StateTakes" = some 4 by kernel_rfl).symm.trans hf) |>.symm
  obtain rfl : fn = Tryd.f4 := (Option.some.inj (Tryd.func4.symm.trans hfn)).symm
  refine ⟨by kernel_rfl, fun j t ht => ?_⟩
  rw [Tryd.params4] at ht
  have hm : t ∈ [9] := by simpa using Array.mem_of_getElem? ht
  have hall : ([9].all fun u => !Tryd.prog.wantsStandIn u) = true := by kernel_rfl
  exact (show Tryd.prog.wantsStandIn t = false by simpa using List.all_eq_true.1 hall t hm)

theorem stateTakes_holds : Rows.StateTakesCardSaid :=
  Claim7.holds_tied_plain_at .later [] _ _ _ _ stateTakes_said (fun _ h => by cases h) (by kernel_rfl) (fun _ h => by cases h) stateTakes_row_tie rfl ⟨rfl, rfl⟩ (by kernel_rfl) rfl stateTakes_plain (by kernel_rfl)

end Go.Proofs.YtekplmhmppdpcaaDoor
