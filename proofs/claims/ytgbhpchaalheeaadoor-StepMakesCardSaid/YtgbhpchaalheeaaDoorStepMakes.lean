/-
  Chapter 09: the law StepMakes: what a frame makes of any state is the document's; the state stays.
-/
import Derived.Test.YtgbhpchaalheeaaDoorStepFive
import Derived.Test.YtgbhpchaalheeaaDoorStateRow
import Derived.Test.YtgbhpchaalheeaaDoorCards
import Derived.Test.YtgbhpchaalheeaaDoorTie
import Derived.Test.YtgbhpchaalheeaaDoorLaid
import Derived.Test.YtgbhpchaalheeaaDoorWalk
import Derived.Deep.DeepHandedRow
namespace Go.Proofs.YtgbhpchaalheeaaDoor
open Go.Proofs.YtgbhpchaalheeaaDoor.Eng Go.RowKit Go.ChangeShapes Go.WideShapes Go.ChangeAt
set_option linter.unusedSimpArgs false
set_option linter.unusedVariables false
set_option maxHeartbeats 2000000
set_option maxRecDepth 20000

variable {F : Nat}

theorem makes_spoil : ∀ (m i : Nat) (l : List T_api_Shot), l.length - i < m → i ≤ l.length → l.length ≤ 1000 → ∃ l', m_hindcastlaw09_StepMakes_L26 F m (i : Int) l = some l'
  | 0, i, l, hm, _, _ => by omega
  | m + 1, i, l, hm, hi, hl => by
    rw [m_hindcastlaw09_StepMakes_L26.eq_2]
    by_cases h1 : i < l.length
    · have hx : l[i]? = some l[i] := List.getElem?_eq_getElem h1
      have hw : IntKind.wrap .i64 ((i : Int) + 1) = ((i + 1 : Nat) : Int) := by rw [wr_i64 ⟨by omega, by omega⟩]; omega
      simp only [decide_eq_true (show (i : Int) < (l.length : Int) by omega), cond_true, getI_nat, hx, Option.bind_some, hw]
      exact makes_spoil m (i + 1) _ (by simp [setI]; omega) (by simp [setI]; omega) (by simp [setI]; omega)
    · simp only [decide_eq_false (show ¬ (i : Int) < (l.length : Int) by omega), cond_false]
      exact ⟨_, rfl⟩

theorem makes_pure (hF : 200 ≤ F) (hwk : m_hindcastlaw09_awake F = some true) {s : T_api_State} {p : Int × Int} (ho : StOk s) (h1 : 0 ≤ p.1 ∧ p.1 ≤ 255) (h2 : 0 ≤ p.2 ∧ p.2 ≤ 255) : m_hindcastlaw09_StepMakes F s p = some true := by
  obtain ⟨i, j⟩ := p
  simp only at h1 h2
  simp only [m_hindcastlaw09_StepMakes, hwk]
  by_cases h3 : (100 : Int) < (s.Shots.length : Int)
  · simp only [decide_eq_true h3, cond_true, Option.bind_some]
  · have hl : (stepv s i j).Shots.length ≤ 100 := by
      unfold stepv; split
      · rename_i hc
        have := (flown_ok (i := i) (j := j) ho hc.1).1.N
        show (flown s i j).1.length ≤ 100
        omega
      · omega
    have c1 := rcopy_of (F := F) (s := s) (by omega)
    have c2 := step_of (F := F) (i := i) (j := j) ho (by omega) hF
    have c3 := rstep_of (F := F) (i := i) (j := j) ho (by omega) hF h1 h2
    have c4 := rsame_of (F := F) (a := stepv s i j) (b := stepv s i j) (by omega) (by omega)
    rw [stE_refl] at c4
    obtain ⟨l', hl'⟩ := makes_spoil (F := F) F 0 (stepv s i j).Shots (by omega) (by omega) (by omega)
    have hl2 : m_hindcastlaw09_StepMakes_L26 F F 0 (stepv s i j).Shots = some l' := hl'
    have c5 := rsame_of (F := F) (a := s) (b := s) (by omega) (by omega)
    rw [stE_refl] at c5
    generalize stepv s i j = t at *
    rw [decide_eq_false h3, cond_false, c1]
    simp only [Option.bind_some]
    rw [c2]
    simp only [Option.bind_some]
    rw [c3]
    simp only [Option.bind_some, c4, Bool.not_true, cond_false, hl2, c5, cond_true]

theorem makes_awake : m_hindcastlaw09_awake 300 = some true := by kernel_rfl

theorem pair_rd {w : World} {m : Nat} {cs : List Value} (h : Rdw TT w (m + 2) 33 cs) : ∃ x : Int × Int, cs = e2 .u8 x ∧ (0 ≤ x.1 ∧ x.1 ≤ 255) ∧ (0 ≤ x.2 ∧ x.2 ≤ 255) := by
  obtain ⟨hl, hf⟩ := rd_arr h rfl
  match cs, hl with
  | [a, b], _ =>
    obtain ⟨x, rfl, wx⟩ := rd_cell (hf 0 (by omega)) rfl
    obtain ⟨y, rfl, wy⟩ := rd_cell (hf 1 (by omega)) rfl
    exact ⟨(x, y), rfl, wf_u8 wx, wf_u8 wy⟩

theorem stepMakes_walk (W : World) (hG : Rds W [] [] (some ⟨0, 0, none⟩) (flat (fun _ : Unit => gl_state_playerBounds) [()]) ∧ Rds W [] [] (some ⟨1, 0, none⟩) (flat (fun _ : Unit => gl_state_shotBounds) [()]))
    (c0 c1 : List Value) (R0 : Rdw TT W 8 30 c0) (R1 : Rdw TT W 8 33 c1) :
    Calls Tryd.prog 3 #[.agg c0.toArray, .agg c1.toArray] W fun e w' => e = .returned (.bool true) ∧ Inv W [] w' [] := by
  obtain ⟨s, a, n, cap, rfl, hn, hc, hr, hok⟩ := state_rd R0
  obtain ⟨p, rfl, g1, g2⟩ := pair_rd R1
  exact (k_hindcastlaw09_StepMakes hn hc (makes_pure (F := 300) (by omega) makes_awake hok g1 g2)).run W ⟨hr, hG⟩

noncomputable def stepMakes_world (os : Os) : World :=
  { World.holding Tryd.prog os ⟨#[], #[], []⟩ with heap := ((World.holding Tryd.prog os ⟨#[], #[], []⟩).heap.modify 0 fun | .cells _ t frozen => .cells gl_state_playerBounds.toArray t frozen | o => o).modify 1 fun | .cells _ t frozen => .cells gl_state_shotBounds.toArray t frozen | o => o }
theorem stepMakes_laid_met (os : Os) : laidMet Tryd.prog Rows.stepMakesRow.laid ((stepMakes_world os).forCall (fun _ _ => 0) ⟨#[], #[.agg #[(.int .u64 0), (.int .u64 0), (.int .i32 0), (.int .i32 0), (.int .i32 0), (.int .i32 0), (.int .u8 0), (.int .u8 0), (.int .u8 0), (.int .i32 0), (.int .i32 0), (.int .i32 0), (.int .i32 0), (.int .u8 0), (.int .u8 0), (.int .u8 0), (.slice none 0 0), (.int .u16 0), (.int .u16 0)], .agg #[(.int .u8 0), (.int .u8 0)]], []⟩).memory := laidMet_of_run' 8 (by kernel_rfl) (by kernel_rfl)
theorem stepMakes_reads (os : Os) {H : Type} (enc : TypeId × Value → H) : ∃ places, DataW.whole enc Tryd.prog ((stepMakes_world os).forCall (fun _ _ => 0) ⟨#[], #[.agg #[(.int .u64 0), (.int .u64 0), (.int .i32 0), (.int .i32 0), (.int .i32 0), (.int .i32 0), (.int .u8 0), (.int .u8 0), (.int .u8 0), (.int .i32 0), (.int .i32 0), (.int .i32 0), (.int .i32 0), (.int .u8 0), (.int .u8 0), (.int .u8 0), (.slice none 0 0), (.int .u16 0), (.int .u16 0)], .agg #[(.int .u8 0), (.int .u8 0)]], []⟩).memory Tryd.f3.params.toList Rows.stepMakesSpec.vars false (#[.agg #[(.int .u64 0), (.int .u64 0), (.int .i32 0), (.int .i32 0), (.int .i32 0), (.int .i32 0), (.int .u8 0), (.int .u8 0), (.int .u8 0), (.int .i32 0), (.int .i32 0), (.int .i32 0), (.int .i32 0), (.int .u8 0), (.int .u8 0), (.int .u8 0), (.slice none 0 0), (.int .u16 0), (.int .u16 0)], .agg #[(.int .u8 0), (.int .u8 0)]] : Array Value).toList 8 = some ([.agg [.lit (.int .u64 0), .lit (.int .u64 0), .agg [.agg [.lit (.int .i32 0), .lit (.int .i32 0), .lit (.int .i32 0), .lit (.int .i32 0), .lit (.int .u8 0), .lit (.int .u8 0), .lit (.int .u8 0)], .agg [.lit (.int .i32 0), .lit (.int .i32 0), .lit (.int .i32 0), .lit (.int .i32 0), .lit (.int .u8 0), .lit (.int .u8 0), .lit (.int .u8 0)]], .nil, .agg [.lit (.int .u16 0), .lit (.int .u16 0)]], .agg [.lit (.int .u8 0), .lit (.int .u8 0)]], [], places) := ⟨[], by kernel_rfl⟩
set_option maxRecDepth 100000 in
theorem stepMakes_lifted (os : Os) (started : os.Started) (H : Type) (enc : TypeId × Value → H) (F : Stop.Interp) :
    ReturnsInHanded {} Tryd.checked os 3 .any ((OpenSpec.ofChange Rows.stepMakesSpec).preRow enc Tryd.prog Tryd.f3 Rows.stepMakesRow.domain false Rows.stepMakesRow.laid) (((OpenSpec.ofChange Rows.stepMakesSpec).at F).post enc Tryd.prog Tryd.f3 false true false false) := by
  obtain ⟨places, hx⟩ := stepMakes_reads os enc
  refine returnsInHanded_of_row (C := Tryd.checked) (s := OpenSpec.ofChange Rows.stepMakesSpec) (by kernel_rfl) started (by kernel_rfl) Tryd.func3
    (witness_row_at (enc := enc) (C := Tryd.checked) false (stepMakes_world os) #[.agg #[(.int .u64 0), (.int .u64 0), (.int .i32 0), (.int .i32 0), (.int .i32 0), (.int .i32 0), (.int .u8 0), (.int .u8 0), (.int .u8 0), (.int .i32 0), (.int .i32 0), (.int .i32 0), (.int .i32 0), (.int .u8 0), (.int .u8 0), (.int .u8 0), (.slice none 0 0), (.int .u16 0), (.int .u16 0)], .agg #[(.int .u8 0), (.int .u8 0)]] rfl (by kernel_rfl) (by kernel_rfl) (by kernel_rfl)
      (OpenSpec.preRow_of_cond 8 hx (by kernel_rfl) (fun k hk => by cases hk) (by kernel_rfl) (stepMakes_laid_met os))) ?_
  intro W base args ds gs before hval0 hW hcnd hk0 hsz0 hL _ _
  have hG := laid_cells hL
  have hval : ∀ (j : Nat) t v, Tryd.f3.params[j]? = some t → args[j]? = some v → Value.okWide Tryd.prog W .any base t v := hval0
  have hW' := hW
  obtain ⟨p, q, hA0, hV, rfl, hfz, hnd⟩ := hW
  have hA : DataW.TrodAll enc Tryd.prog W 0 (fun _ => true) true Tryd.f3.params.toList args.toList ds p := hA0
  obtain ⟨rfl, rfl⟩ := trodVars_none hV
  have hsz : ∀ x ∈ DataW.weightsEach Tryd.prog Tryd.f3.params.toList ds, x ≤ maxB := by
    have h1 : (DataW.weightsEach Tryd.prog (Tryd.f3.params.toList ++ []) (ds ++ [])).all (· ≤ reachBytes) = true := hsz0
    simp only [List.append_nil] at h1
    intro x hx; have h2 := List.all_eq_true.1 h1 x hx; simp only [decide_eq_true_eq] at h2; exact h2
  rw [Tryd.params3] at hA hval hsz
  have hR := rdw_all tt_ok ctt_ok (closed_of tt_closed) (fun _ => rfl) 8 hA hsz
  have hback := fun (W2 : World) (hb : Below W.heap.size W W2) => trodAll_below (by kernel_rfl : laidOutB Tryd.prog = true) hb (by kernel_rfl) hA
  obtain ⟨v0, vs0, d0, ds0, p0, q0, hargs, rfl, rfl, h0, r0⟩ := trodAll_cons hA
  obtain ⟨v1, vs1, d1, ds1, p1, q1, rfl, rfl, rfl, h1, r1⟩ := trodAll_cons r0
  obtain ⟨rfl, rfl, rfl⟩ := trodAll_nil r1
  obtain rfl : args = #[v0, v1] := by cases args; simp_all
  have R0 := hR 0 30 v0 rfl rfl
  have e0 := val_agg tt_ok (t := 30) rfl rfl (hval 0 30 v0 rfl rfl)
  generalize v0.cells.toList = c0 at e0 R0
  subst e0
  have R1 := hR 1 33 v1 rfl rfl
  have e1 := val_agg tt_ok (t := 33) rfl rfl (hval 1 33 v1 rfl rfl)
  generalize v1.cells.toList = c1 at e1 R1
  subst e1
  clear hval hval0 hsz hsz0 hR hA0
  refine (stepMakes_walk W hG c0 c1 R0 R1).mono fun e W2 ⟨he, hI⟩ => ?_
  subst he
  exact ⟨_, rfl, _, _, _, [], _, [], hW', trodAll_mk1 (shut_bool Tryd.underlying4 _), hback _ (below_of_inv hI), rfl, (below_of_inv hI).frame _, fun h => by cases h⟩

theorem stepMakes_said : Rows.StepMakesSaid :=
  OpenClaim.holds_of_cond 3 Tryd.f3 rfl rfl rfl rfl rfl rfl rfl ⟨rfl, rfl, rfl, rfl, rfl⟩ rfl rfl rfl rfl rfl (by kernel_rfl) Tryd.func3 (by kernel_rfl)
    (of_decide_eq_true (by kernel_rfl)) (by unfold Func.isWrapper; first | (rw [if_pos (by decide +kernel)]; kernel_rfl) | (rw [if_neg (by decide +kernel)]; exact ⟨rfl, rfl⟩))
    (fun os started H enc _ F => by rw [OpenClaim.pre_eq_preRow]; exact stepMakes_lifted os started H enc F)

theorem stepMakes_plain (f : FuncId) (fn : Func) (hf : Tryd.pinned.checked.prog.funcNamed "hindcast/hindcastlaw09.StepMakes" = some f) (hfn : Tryd.pinned.checked.prog.funcs[f]? = some fn) :
    false = Tryd.pinned.checked.prog.looks [] ∧ ∀ (j : Nat) t, fn.params[j]? = some t → Tryd.pinned.checked.prog.wantsStandIn t = false := by
  obtain rfl : f = 3 := Option.some.inj ((show Tryd.prog.funcNamed "hindcast/hindcastlaw09.StepMakes" = some 3 by kernel_rfl).symm.trans hf) |>.symm
  obtain rfl : fn = Tryd.f3 := (Option.some.inj (Tryd.func3.symm.trans hfn)).symm
  refine ⟨by kernel_rfl, fun j t ht => ?_⟩
  rw [Tryd.params3] at ht
  have hm : t ∈ [30, 33] := by simpa using Array.mem_of_getElem? ht
  have hall : ([30, 33].all fun u => !Tryd.prog.wantsStandIn u) = true := by kernel_rfl
  exact (show Tryd.prog.wantsStandIn t = false by simpa using List.all_eq_true.1 hall t hm)

theorem stepMakes_holds : Rows.StepMakesCardSaid :=
  Claim7.holds_tied_plain_at .later [] _ _ _ _ stepMakes_said (fun _ h => by cases h) (by kernel_rfl) (fun _ h => by cases h) stepMakes_row_tie rfl ⟨rfl, rfl⟩ (by kernel_rfl) rfl stepMakes_plain (by kernel_rfl)

end Go.Proofs.YtgbhpchaalheeaaDoor
