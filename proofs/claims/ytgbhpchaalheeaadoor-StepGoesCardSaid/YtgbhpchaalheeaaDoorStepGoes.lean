/-
  Chapter 09: the law StepGoes: what many frames make, one behind the other, is the document's.
-/
import Derived.Test.YtgbhpchaalheeaaDoorStepFive
import Derived.Test.YtgbhpchaalheeaaDoorStateRow
import Derived.Test.YtgbhpchaalheeaaDoorCards
import Derived.Test.YtgbhpchaalheeaaDoorTie
import Derived.Test.YtgbhpchaalheeaaDoorLaid
import Derived.Test.YtgbhpchaalheeaaDoorWalk
import Derived.Deep.DeepHandedRow
namespace Go.Proofs.YtgbhpchaalheeaaDoor
open Go.Proofs.YtgbhpchaalheeaaDoor.Eng Go.RowKit Go.ChangeShapes Go.WideShapes Go.ChangeAt
set_option linter.unusedSimpArgs false
set_option linter.unusedVariables false
set_option maxHeartbeats 2000000
set_option maxRecDepth 20000

variable {F : Nat}

theorem goes_loop {l : List (Int × Int)} (hF : 400 ≤ F) (hl : l.length ≤ 300) (hp : ∀ p ∈ l, (0 ≤ p.1 ∧ p.1 ≤ 255) ∧ (0 ≤ p.2 ∧ p.2 ≤ 255)) : ∀ (m i : Nat) (s : T_api_State), l.length - i < m → i ≤ l.length → StOk s → stGood s = true →
    ∃ r, m_hindcastlaw09_StepGoes_L18 F l m (i : Int) s.Frame s.Seed s.Players s.Shots s.Score s.Frame s.Seed s.Players s.Shots s.Score = some (.inl (false, r))
  | 0, i, s, hm, _, _, _ => by omega
  | m + 1, i, s, hm, hi, ho, hg => by
    rw [m_hindcastlaw09_StepGoes_L18.eq_2]
    by_cases h1 : i < l.length
    · have hx : l[i]? = some l[i] := List.getElem?_eq_getElem h1
      have hw : IntKind.wrap .i64 ((i : Int) + 1) = ((i + 1 : Nat) : Int) := by rw [wr_i64 ⟨by omega, by omega⟩]; omega
      have h8 := stGood_leI hg
      have c2 := step_of (F := F) (i := l[i].1) (j := l[i].2) ho (by omega) (by omega)
      have hpi := hp l[i] (List.getElem_mem h1)
      have c3 := rstep_of (F := F) (i := l[i].1) (j := l[i].2) ho (by omega) (by omega) hpi.1 hpi.2
      have ok := step_ok (i := l[i].1) (j := l[i].2) ho
      have gd := step_good (i := l[i].1) (j := l[i].2) ho hg
      have h8' := stGood_leI gd
      have c4 := rsame_of (F := F) (a := stepv s l[i].1 l[i].2) (b := stepv s l[i].1 l[i].2) (by omega) (by omega)
      rw [stE_refl] at c4
      have ih := goes_loop hF hl hp m (i + 1) (stepv s l[i].1 l[i].2) (by omega) (by omega) ok gd
      have c2' : m_step_Step F (T_api_State.mk s.Frame s.Seed s.Players s.Shots s.Score) l[i] = _ := c2
      have c3' : m_hindcastref09_Step F (T_api_State.mk s.Frame s.Seed s.Players s.Shots s.Score) l[i] = _ := c3
      generalize stepv s l[i].1 l[i].2 = t at *
      rw [decide_eq_true (show (i : Int) < (l.length : Int) by omega), cond_true, getI_nat, hx]
      simp only [Option.bind_some]
      rw [c2', c3']
      simp only [Option.bind_some]
      rw [c4]
      simp only [Option.bind_some, Bool.not_true, cond_false, hw]
      exact ih
    · rw [decide_eq_false (show ¬ (i : Int) < (l.length : Int) by omega), cond_false]
      exact ⟨_, rfl⟩

theorem goes_pure (hF : 400 ≤ F) (hwk : m_hindcastlaw09_awake F = some true) {d : Int} {l : List (Int × Int)} (hd : 0 ≤ d ∧ d ≤ 18446744073709551615) (hp : ∀ p ∈ l, (0 ≤ p.1 ∧ p.1 ≤ 255) ∧ (0 ≤ p.2 ∧ p.2 ≤ 255)) : m_hindcastlaw09_StepGoes F d l = some true := by
  simp only [m_hindcastlaw09_StepGoes, hwk]
  by_cases h3 : (300 : Int) < (l.length : Int)
  · simp only [decide_eq_true h3, cond_true, Option.bind_some]
  · obtain ⟨r, hr⟩ := goes_loop (F := F) (l := l) hF (by omega) hp F 0 ⟨0, d, (⟨8192, 14336, 0, 0, 100, 0, 0⟩, ⟨53248, 14336, 0, 0, 100, 0, 1⟩), [], (0, 0)⟩ (by omega) (by omega)
      ⟨by simp, hd, ⟨by simp, by simp, by simp, by simp, by simp, by simp, by simp⟩, ⟨by simp, by simp, by simp, by simp, by simp, by simp, by simp⟩, by simp, by simp, by simp⟩ rfl
    have hr' : m_hindcastlaw09_StepGoes_L18 F l F 0 0 d (⟨8192, 14336, 0, 0, 100, 0, 0⟩, ⟨53248, 14336, 0, 0, 100, 0, 1⟩) [] (0, 0) 0 d (⟨8192, 14336, 0, 0, 100, 0, 0⟩, ⟨53248, 14336, 0, 0, 100, 0, 1⟩) [] (0, 0) = some (.inl (false, r)) := hr
    simp only [decide_eq_false h3, cond_false, m_hindcastref08_Start, Option.bind_some, hr', orE_l]

theorem goes_awake : m_hindcastlaw09_awake 400 = some true := by kernel_rfl

theorem pair_rd {w : World} {m : Nat} {cs : List Value} (h : Rdw TT w (m + 2) 33 cs) : ∃ x : Int × Int, cs = e2 .u8 x ∧ (0 ≤ x.1 ∧ x.1 ≤ 255) ∧ (0 ≤ x.2 ∧ x.2 ≤ 255) := by
  obtain ⟨hl, hf⟩ := rd_arr h rfl
  match cs, hl with
  | [a, b], _ =>
    obtain ⟨x, rfl, wx⟩ := rd_cell (hf 0 (by omega)) rfl
    obtain ⟨y, rfl, wy⟩ := rd_cell (hf 1 (by omega)) rfl
    exact ⟨(x, y), rfl, wf_u8 wx, wf_u8 wy⟩

theorem stepGoes_walk (W : World) (hG : Rds W [] [] (some ⟨0, 0, none⟩) (flat (fun _ : Unit => gl_state_playerBounds) [()]) ∧ Rds W [] [] (some ⟨1, 0, none⟩) (flat (fun _ : Unit => gl_state_shotBounds) [()]))
    (v0 v1 : Value) (R0 : Rdw TT W 8 22 [v0]) (R1 : Rdw TT W 8 41 [v1]) :
    Calls Tryd.prog 4 #[v0, v1] W fun e w' => e = .returned (.bool true) ∧ Inv W [] w' [] := by
  obtain ⟨d, rfl, wd⟩ := rd_cell R0 rfl
  obtain ⟨a, n, cap, xs, rfl, hn, hc, _, hr, hok⟩ := rd_list (enc := e2 .u8) (ok := fun x : Int × Int => (0 ≤ x.1 ∧ x.1 ≤ 255) ∧ (0 ≤ x.2 ∧ x.2 ≤ 255)) R1 rfl rfl (e2_len _) (fun es _ h => by
    obtain ⟨x, hx, g⟩ := pair_rd h
    exact ⟨x, hx, g⟩)
  exact (k_hindcastlaw09_StepGoes hn hc (goes_pure (F := 400) (by omega) goes_awake (wf_u64 wd) hok)).run W ⟨hr, hG⟩

noncomputable def stepGoes_world (os : Os) : World :=
  { World.holding Tryd.prog os ⟨#[], #[], []⟩ with heap := ((World.holding Tryd.prog os ⟨#[], #[], []⟩).heap.modify 0 fun | .cells _ t frozen => .cells gl_state_playerBounds.toArray t frozen | o => o).modify 1 fun | .cells _ t frozen => .cells gl_state_shotBounds.toArray t frozen | o => o }
theorem stepGoes_laid_met (os : Os) : laidMet Tryd.prog Rows.stepGoesRow.laid ((stepGoes_world os).forCall (fun _ _ => 0) ⟨#[], #[.int .u64 0, .slice none 0 0], []⟩).memory := laidMet_of_run' 8 (by kernel_rfl) (by kernel_rfl)
theorem stepGoes_reads (os : Os) {H : Type} (enc : TypeId × Value → H) : ∃ places, DataW.whole enc Tryd.prog ((stepGoes_world os).forCall (fun _ _ => 0) ⟨#[], #[.int .u64 0, .slice none 0 0], []⟩).memory Tryd.f4.params.toList Rows.stepGoesSpec.vars false (#[.int .u64 0, .slice none 0 0] : Array Value).toList 8 = some ([.lit (.int .u64 0), .nil], [], places) := ⟨[], by kernel_rfl⟩
set_option maxRecDepth 100000 in
theorem stepGoes_lifted (os : Os) (started : os.Started) (H : Type) (enc : TypeId × Value → H) (F : Stop.Interp) :
    ReturnsInHanded {} Tryd.checked os 4 .any ((OpenSpec.ofChange Rows.stepGoesSpec).preRow enc Tryd.prog Tryd.f4 Rows.stepGoesRow.domain false Rows.stepGoesRow.laid) (((OpenSpec.ofChange Rows.stepGoesSpec).at F).post enc Tryd.prog Tryd.f4 false true false false) := by
  obtain ⟨places, hx⟩ := stepGoes_reads os enc
  refine returnsInHanded_of_row (C := Tryd.checked) (s := OpenSpec.ofChange Rows.stepGoesSpec) (by kernel_rfl) started (by kernel_rfl) Tryd.func4
    (witness_row_at (enc := enc) (C := Tryd.checked) false (stepGoes_world os) #[.int .u64 0, .slice none 0 0] rfl (by kernel_rfl) (by kernel_rfl) (by kernel_rfl)
      (OpenSpec.preRow_of_cond 8 hx (by kernel_rfl) (fun k hk => by cases hk) (by kernel_rfl) (stepGoes_laid_met os))) ?_
  intro W base args ds gs before hval0 hW hcnd hk0 hsz0 hL _ _
  have hG := laid_cells hL
  have hval : ∀ (j : Nat) t v, Tryd.f4.params[j]? = some t → args[j]? = some v → Value.okWide Tryd.prog W .any base t v := hval0
  have hW' := hW
  obtain ⟨p, q, hA0, hV, rfl, hfz, hnd⟩ := hW
  have hA : DataW.TrodAll enc Tryd.prog W 0 (fun _ => true) true Tryd.f4.params.toList args.toList ds p := hA0
  obtain ⟨rfl, rfl⟩ := trodVars_none hV
  have hsz : ∀ x ∈ DataW.weightsEach Tryd.prog Tryd.f4.params.toList ds, x ≤ maxB := by
    have h1 : (DataW.weightsEach Tryd.prog (Tryd.f4.params.toList ++ []) (ds ++ [])).all (· ≤ reachBytes) = true := hsz0
    simp only [List.append_nil] at h1
    intro x hx; have h2 := List.all_eq_true.1 h1 x hx; simp only [decide_eq_true_eq] at h2; exact h2
  rw [Tryd.params4] at hA hval hsz
  have hR := rdw_all tt_ok ctt_ok (closed_of tt_closed) (fun _ => rfl) 8 hA hsz
  have hback := fun (W2 : World) (hb : Below W.heap.size W W2) => trodAll_below (by kernel_rfl : laidOutB Tryd.prog = true) hb (by kernel_rfl) hA
  obtain ⟨v0, vs0, d0, ds0, p0, q0, hargs, rfl, rfl, h0, r0⟩ := trodAll_cons hA
  obtain ⟨v1, vs1, d1, ds1, p1, q1, rfl, rfl, rfl, h1, r1⟩ := trodAll_cons r0
  obtain ⟨rfl, rfl, rfl⟩ := trodAll_nil r1
  obtain rfl : args = #[v0, v1] := by cases args; simp_all
  have R0 := hR 0 22 v0 rfl rfl
  have e0 := val_one tt_ok (t := 22) rfl (by intro h; cases h) rfl (hval 0 22 v0 rfl rfl)
  rw [e0] at R0
  have R1 := hR 1 41 v1 rfl rfl
  have e1 := val_one tt_ok (t := 41) rfl (by intro h; cases h) rfl (hval 1 41 v1 rfl rfl)
  rw [e1] at R1
  clear hval hval0 hsz hsz0 hR hA0
  refine (stepGoes_walk W hG v0 v1 R0 R1).mono fun e W2 ⟨he, hI⟩ => ?_
  subst he
  exact ⟨_, rfl, _, _, _, [], _, [], hW', trodAll_mk1 (shut_bool Tryd.underlying4 _), hback _ (below_of_inv hI), rfl, (below_of_inv hI).frame _, fun h => by cases h⟩

theorem stepGoes_said : Rows.StepGoesSaid :=
  OpenClaim.holds_of_cond 4 Tryd.f4 rfl rfl rfl rfl rfl rfl rfl ⟨rfl, rfl, rfl, rfl, rfl⟩ rfl rfl rfl rfl rfl (by kernel_rfl) Tryd.func4 (by kernel_rfl)
    (of_decide_eq_true (by kernel_rfl)) (by unfold Func.isWrapper; first | (rw [if_pos (by decide +kernel)]; kernel_rfl) | (rw [if_neg (by decide +kernel)]; exact ⟨rfl, rfl⟩))
    (fun os started H enc _ F => by rw [OpenClaim.pre_eq_preRow]; exact stepGoes_lifted os started H enc F)

theorem stepGoes_plain (f : FuncId) (fn : Func) (hf : Tryd.pinned.checked.prog.funcNamed "hindcast/hindcastlaw09.StepGoes" = some f) (hfn : Tryd.pinned.checked.prog.funcs[f]? = some fn) :
    false = Tryd.pinned.checked.prog.looks [] ∧ ∀ (j : Nat) t, fn.params[j]? = some t → Tryd.pinned.checked.prog.wantsStandIn t = false := by
  obtain rfl : f = 4 := Option.some.inj ((show Tryd.prog.funcNamed "hindcast/hindcastlaw09.StepGoes" = some 4 by kernel_rfl).symm.trans hf) |>.symm
  obtain rfl : fn = Tryd.f4 := (Option.some.inj (Tryd.func4.symm.trans hfn)).symm
  refine ⟨by kernel_rfl, fun j t ht => ?_⟩
  rw [Tryd.params4] at ht
  have hm : t ∈ [22, 41] := by simpa using Array.mem_of_getElem? ht
  have hall : ([22, 41].all fun u => !Tryd.prog.wantsStandIn u) = true := by kernel_rfl
  exact (show Tryd.prog.wantsStandIn t = false by simpa using List.all_eq_true.1 hall t hm)

theorem stepGoes_holds : Rows.StepGoesCardSaid :=
  Claim7.holds_tied_plain_at .later [] _ _ _ _ stepGoes_said (fun _ h => by cases h) (by kernel_rfl) (fun _ h => by cases h) stepGoes_row_tie rfl ⟨rfl, rfl⟩ (by kernel_rfl) rfl stepGoes_plain (by kernel_rfl)

end Go.Proofs.YtgbhpchaalheeaaDoor
