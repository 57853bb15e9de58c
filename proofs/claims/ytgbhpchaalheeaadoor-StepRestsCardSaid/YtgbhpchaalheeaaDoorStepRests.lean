/-
  Chapter 09: the law StepRests: without inputs both come to rest within 60 frames, if there are no shots.
-/
import Derived.Test.YtgbhpchaalheeaaDoorStepRestPure
import Derived.Test.YtgbhpchaalheeaaDoorStateRow
import Derived.Test.YtgbhpchaalheeaaDoorCards
import Derived.Test.YtgbhpchaalheeaaDoorTie
import Derived.Test.YtgbhpchaalheeaaDoorLaid
import Derived.Test.YtgbhpchaalheeaaDoorWalk
import Derived.Deep.DeepHandedRow
namespace Go.Proofs.YtgbhpchaalheeaaDoor
open Go.Proofs.YtgbhpchaalheeaaDoor.Eng Go.RowKit Go.ChangeShapes Go.WideShapes Go.ChangeAt
set_option linter.unusedSimpArgs false
set_option linter.unusedVariables false
set_option maxHeartbeats 2000000
set_option maxRecDepth 20000

variable {F : Nat}

theorem rests_loop {s : T_api_State} (hF : 200 ≤ F) : ∀ (m n : Nat) (t : T_api_State), 60 - n < m → n ≤ 60 → Rest s n t →
    ∃ u, Rest s 60 u ∧ m_hindcastlaw09_StepRests_L18 F m (n : Int) t.Frame t.Seed t.Players t.Shots t.Score = some (u.Frame, u.Seed, u.Players, u.Shots, u.Score)
  | 0, n, t, hm, _, _ => by omega
  | m + 1, n, t, hm, hn, h => by
    rw [m_hindcastlaw09_StepRests_L18.eq_2]
    by_cases h1 : n < 60
    · have hw : IntKind.wrap .i64 ((n : Int) + 1) = ((n + 1 : Nat) : Int) := by rw [wr_i64 ⟨by omega, by omega⟩]; omega
      have h8 := stGood_leI h.good
      have hs := step_of (F := F) (i := 0) (j := 0) h.ok (by omega) hF
      have hs' : m_step_Step F (T_api_State.mk t.Frame t.Seed t.Players t.Shots t.Score) ((0 : Int), (0 : Int)) = _ := hs
      obtain ⟨u, hu, e⟩ := rests_loop hF m (n + 1) (stepv t 0 0) (by omega) (by omega) (rest_step h)
      refine ⟨u, hu, ?_⟩
      rw [decide_eq_true (show (n : Int) < 60 by omega), cond_true, hs']
      simp only [Option.bind_some, hw, e]
    · obtain rfl : n = 60 := by omega
      refine ⟨t, h, ?_⟩
      rfl

theorem rests_pure (hF : 200 ≤ F) (hwk : m_hindcastlaw09_awake F = some true) {s : T_api_State} (ho : StOk s) : m_hindcastlaw09_StepRests F s = some true := by
  obtain ⟨s', hs'⟩ : ∃ s' : T_api_State, s' = ⟨s.Frame, s.Seed, s.Players, [], s.Score⟩ := ⟨_, rfl⟩
  have ho' : StOk s' := by rw [hs']; exact ⟨ho.Frame, ho.Seed, ho.P1, ho.P2, by simp, ho.Sc1, ho.Sc2⟩
  have hsh : s'.Shots = [] := by rw [hs']
  have hc := check_of (F := F) ho' (by rw [hsh]; simp) (by omega) (by rw [hsh]; simp; omega)
  simp only [m_hindcastlaw09_StepRests, hwk]
  rw [← hs', hc]
  simp only [Option.bind_some]
  cases hg : stGood s'
  · rfl
  · obtain ⟨⟨p1, _⟩, ⟨p2, _⟩, _, _⟩ := st_parts ho' hg
    have hfr := ho.Frame
    have r0 : Rest s' 0 s' := by
      refine ⟨ho', hg, hsh, ?_, p1.VX, p1.VY, p2.VX, p2.VY, rfl, rfl, rfl, rfl, ?_, ?_⟩
      · rw [wr_u64]
        · simp
        · rw [hs']; simp only; omega
      · have := p1.C; omega
      · have := p2.C; omega
    obtain ⟨u, hu, e⟩ := rests_loop (F := F) hF F 0 s' (by omega) (by omega) r0
    have e' : m_hindcastlaw09_StepRests_L18 F F 0 s.Frame s.Seed s.Players [] s.Score = some (u.Frame, u.Seed, u.Players, u.Shots, u.Score) := by
      rw [hs'] at e; exact e
    obtain ⟨z1, z2, z3⟩ := rest_end hu
    have h8 := stGood_leI hu.good
    have hst := step_of (F := F) (i := 0) (j := 0) hu.ok (by omega) hF
    have hst' : m_step_Step F (T_api_State.mk u.Frame u.Seed u.Players u.Shots u.Score) ((0 : Int), (0 : Int)) = _ := hst
    have q1 := hu.h1; have q2 := hu.h2; have q3 := hu.f1; have q4 := hu.f2; have q5 := hu.fr
    have hp1 : s'.Players = s.Players := by rw [hs']
    have hp2 : s'.Frame = s.Frame := by rw [hs']
    rw [hp1] at q1 q2 q3 q4
    rw [hp2, show ((60 : Nat) : Int) = 60 from rfl] at q5
    generalize stepv u 0 0 = t at *
    obtain ⟨m, hm⟩ : ∃ m, F = m + 3 := ⟨F - 3, by omega⟩
    have w1 : IntKind.wrap .i64 ((0 : Int) + 1) = 1 := wr_i64 ⟨by omega, by omega⟩
    have w2 : IntKind.wrap .i64 ((1 : Int) + 1) = 2 := wr_i64 ⟨by omega, by omega⟩
    have hL : m_hindcastlaw09_StepRests_L33 F s u.Players F 0 = some (.inl false) := by
      have e : m_hindcastlaw09_StepRests_L33 F s u.Players F 0 = m_hindcastlaw09_StepRests_L33 F s u.Players (m + 3) 0 := by rw [← hm]
      rw [e]
      simp only [m_hindcastlaw09_StepRests_L33, show decide ((0 : Int) < 2) = true from rfl, show decide ((1 : Int) < 2) = true from rfl, show decide ((2 : Int) < 2) = false from rfl,
        show ((0 : Int) == 0) = true from rfl, show ((1 : Int) == 0) = false from rfl, show ((1 : Int) == 1) = true from rfl, cond_true, cond_false, w1, w2, or_some, Option.bind_some,
        z1.1, z1.2.1, z1.2.2, z2.1, z2.2.1, z2.2.2, q1, q2, q3, q4, bne_self_eq_false, Bool.or_self]
    simp only [if_true, show ((0 : Int) != 0) = false from rfl, cond_false, e', Option.bind_some, hL, orE_l]
    rw [hst']
    simp only [Option.bind_some, z3, q5, beq_self_eq_true, Bool.and_self, cond_true]

theorem rests_awake : m_hindcastlaw09_awake 300 = some true := by kernel_rfl

theorem stepRests_walk (W : World) (hG : Rds W [] [] (some ⟨0, 0, none⟩) (flat (fun _ : Unit => gl_state_playerBounds) [()]) ∧ Rds W [] [] (some ⟨1, 0, none⟩) (flat (fun _ : Unit => gl_state_shotBounds) [()]))
    (c0 : List Value) (R0 : Rdw TT W 8 30 c0) :
    Calls Tryd.prog 5 #[.agg c0.toArray] W fun e w' => e = .returned (.bool true) ∧ Inv W [] w' [] := by
  obtain ⟨s, a, n, cap, rfl, hn, hc, hr, hok⟩ := state_rd R0
  exact (k_hindcastlaw09_StepRests hn hc (rests_pure (F := 300) (by omega) rests_awake hok)).run W ⟨hr, hG⟩

noncomputable def stepRests_world (os : Os) : World :=
  { World.holding Tryd.prog os ⟨#[], #[], []⟩ with heap := ((World.holding Tryd.prog os ⟨#[], #[], []⟩).heap.modify 0 fun | .cells _ t frozen => .cells gl_state_playerBounds.toArray t frozen | o => o).modify 1 fun | .cells _ t frozen => .cells gl_state_shotBounds.toArray t frozen | o => o }
theorem stepRests_laid_met (os : Os) : laidMet Tryd.prog Rows.stepRestsRow.laid ((stepRests_world os).forCall (fun _ _ => 0) ⟨#[], #[.agg #[(.int .u64 0), (.int .u64 0), (.int .i32 0), (.int .i32 0), (.int .i32 0), (.int .i32 0), (.int .u8 0), (.int .u8 0), (.int .u8 0), (.int .i32 0), (.int .i32 0), (.int .i32 0), (.int .i32 0), (.int .u8 0), (.int .u8 0), (.int .u8 0), (.slice none 0 0), (.int .u16 0), (.int .u16 0)]], []⟩).memory := laidMet_of_run' 8 (by kernel_rfl) (by kernel_rfl)
theorem stepRests_reads (os : Os) {H : Type} (enc : TypeId × Value → H) : ∃ places, DataW.whole enc Tryd.prog ((stepRests_world os).forCall (fun _ _ => 0) ⟨#[], #[.agg #[(.int .u64 0), (.int .u64 0), (.int .i32 0), (.int .i32 0), (.int .i32 0), (.int .i32 0), (.int .u8 0), (.int .u8 0), (.int .u8 0), (.int .i32 0), (.int .i32 0), (.int .i32 0), (.int .i32 0), (.int .u8 0), (.int .u8 0), (.int .u8 0), (.slice none 0 0), (.int .u16 0), (.int .u16 0)]], []⟩).memory Tryd.f5.params.toList Rows.stepRestsSpec.vars false (#[.agg #[(.int .u64 0), (.int .u64 0), (.int .i32 0), (.int .i32 0), (.int .i32 0), (.int .i32 0), (.int .u8 0), (.int .u8 0), (.int .u8 0), (.int .i32 0), (.int .i32 0), (.int .i32 0), (.int .i32 0), (.int .u8 0), (.int .u8 0), (.int .u8 0), (.slice none 0 0), (.int .u16 0), (.int .u16 0)]] : Array Value).toList 8 = some ([.agg [.lit (.int .u64 0), .lit (.int .u64 0), .agg [.agg [.lit (.int .i32 0), .lit (.int .i32 0), .lit (.int .i32 0), .lit (.int .i32 0), .lit (.int .u8 0), .lit (.int .u8 0), .lit (.int .u8 0)], .agg [.lit (.int .i32 0), .lit (.int .i32 0), .lit (.int .i32 0), .lit (.int .i32 0), .lit (.int .u8 0), .lit (.int .u8 0), .lit (.int .u8 0)]], .nil, .agg [.lit (.int .u16 0), .lit (.int .u16 0)]]], [], places) := ⟨[], by kernel_rfl⟩
set_option maxRecDepth 100000 in
theorem stepRests_lifted (os : Os) (started : os.Started) (H : Type) (enc : TypeId × Value → H) (F : Stop.Interp) :
    ReturnsInHanded {} Tryd.checked os 5 .any ((OpenSpec.ofChange Rows.stepRestsSpec).preRow enc Tryd.prog Tryd.f5 Rows.stepRestsRow.domain false Rows.stepRestsRow.laid) (((OpenSpec.ofChange Rows.stepRestsSpec).at F).post enc Tryd.prog Tryd.f5 false true false false) := by
  obtain ⟨places, hx⟩ := stepRests_reads os enc
  refine returnsInHanded_of_row (C := Tryd.checked) (s := OpenSpec.ofChange Rows.stepRestsSpec) (by kernel_rfl) started (by kernel_rfl) Tryd.func5
    (witness_row_at (enc := enc) (C := Tryd.checked) false (stepRests_world os) #[.agg #[(.int .u64 0), (.int .u64 0), (.int .i32 0), (.int .i32 0), (.int .i32 0), (.int .i32 0), (.int .u8 0), (.int .u8 0), (.int .u8 0), (.int .i32 0), (.int .i32 0), (.int .i32 0), (.int .i32 0), (.int .u8 0), (.int .u8 0), (.int .u8 0), (.slice none 0 0), (.int .u16 0), (.int .u16 0)]] rfl (by kernel_rfl) (by kernel_rfl) (by kernel_rfl)
      (OpenSpec.preRow_of_cond 8 hx (by kernel_rfl) (fun k hk => by cases hk) (by kernel_rfl) (stepRests_laid_met os))) ?_
  intro W base args ds gs before hval0 hW hcnd hk0 hsz0 hL _ _
  have hG := laid_cells hL
  have hval : ∀ (j : Nat) t v, Tryd.f5.params[j]? = some t → args[j]? = some v → Value.okWide Tryd.prog W .any base t v := hval0
  have hW' := hW
  obtain ⟨p, q, hA0, hV, rfl, hfz, hnd⟩ := hW
  have hA : DataW.TrodAll enc Tryd.prog W 0 (fun _ => true) true Tryd.f5.params.toList args.toList ds p := hA0
  obtain ⟨rfl, rfl⟩ := trodVars_none hV
  have hsz : ∀ x ∈ DataW.weightsEach Tryd.prog Tryd.f5.params.toList ds, x ≤ maxB := by
    have h1 : (DataW.weightsEach Tryd.prog (Tryd.f5.params.toList ++ []) (ds ++ [])).all (· ≤ reachBytes) = true := hsz0
    simp only [List.append_nil] at h1
    intro x hx; have h2 := List.all_eq_true.1 h1 x hx; simp only [decide_eq_true_eq] at h2; exact h2
  rw [Tryd.params5] at hA hval hsz
  have hR := rdw_all tt_ok ctt_ok (closed_of tt_closed) (fun _ => rfl) 8 hA hsz
  have hback := fun (W2 : World) (hb : Below W.heap.size W W2) => trodAll_below (by kernel_rfl : laidOutB Tryd.prog = true) hb (by kernel_rfl) hA
  obtain ⟨v0, vs0, d0, ds0, p0, q0, hargs, rfl, rfl, h0, r0⟩ := trodAll_cons hA
  obtain ⟨rfl, rfl, rfl⟩ := trodAll_nil r0
  obtain rfl : args = #[v0] := by cases args; simp_all
  have R0 := hR 0 30 v0 rfl rfl
  have e0 := val_agg tt_ok (t := 30) rfl rfl (hval 0 30 v0 rfl rfl)
  generalize v0.cells.toList = c0 at e0 R0
  subst e0
  clear hval hval0 hsz hsz0 hR hA0
  refine (stepRests_walk W hG c0 R0).mono fun e W2 ⟨he, hI⟩ => ?_
  subst he
  exact ⟨_, rfl, _, _, _, [], _, [], hW', trodAll_mk1 (shut_bool Tryd.underlying4 _), hback _ (below_of_inv hI), rfl, (below_of_inv hI).frame _, fun h => by cases h⟩

theorem stepRests_said : Rows.StepRestsSaid :=
  OpenClaim.holds_of_cond 5 Tryd.f5 rfl rfl rfl rfl rfl rfl rfl ⟨rfl, rfl, rfl, rfl, rfl⟩ rfl rfl rfl rfl rfl (by kernel_rfl) Tryd.func5 (by kernel_rfl)
    (of_decide_eq_true (by kernel_rfl)) (by unfold Func.isWrapper; first | (rw [if_pos (by decide +kernel)]; kernel_rfl) | (rw [if_neg (by decide +kernel)]; exact ⟨rfl, rfl⟩))
    (fun os started H enc _ F => by rw [OpenClaim.pre_eq_preRow]; exact stepRests_lifted os started H enc F)

theorem stepRests_plain (f : FuncId) (fn : Func) (hf : Tryd.pinned.checked.prog.funcNamed "hindcast/hindcastlaw09.StepRests" = some f) (hfn : Tryd.pinned.checked.prog.funcs[f]? = some fn) :
    false = Tryd.pinned.checked.prog.looks [] ∧ ∀ (j : Nat) t, fn.params[j]? = some t → Tryd.pinned.checked.prog.wantsStandIn t = false := by
  obtain rfl : f = 5 := Option.some.inj ((show Tryd.prog.funcNamed "hindcast/hindcastlaw09.StepRests" = some 5 by kernel_rfl).symm.trans hf) |>.symm
  obtain rfl : fn = Tryd.f5 := (Option.some.inj (Tryd.func5.symm.trans hfn)).symm
  refine ⟨by kernel_rfl, fun j t ht => ?_⟩
  rw [Tryd.params5] at ht
  have hm : t ∈ [30] := by simpa using Array.mem_of_getElem? ht
  have hall : ([30].all fun u => !Tryd.prog.wantsStandIn u) = true := by kernel_rfl
  exact (show Tryd.prog.wantsStandIn t = false by simpa using List.all_eq_true.1 hall t hm)

theorem stepRests_holds : Rows.StepRestsCardSaid :=
  Claim7.holds_tied_plain_at .later [] _ _ _ _ stepRests_said (fun _ h => by cases h) (by kernel_rfl) (fun _ h => by cases h) stepRests_row_tie rfl ⟨rfl, rfl⟩ (by kernel_rfl) rfl stepRests_plain (by kernel_rfl)

end Go.Proofs.YtgbhpchaalheeaaDoor
