/-
  Chapter 09: the law StepRight: what a frame makes of a state that may be may be, and what it keeps.
-/
import Derived.Test.YtgbhpchaalheeaaDoorStepRightPure
import Derived.Test.YtgbhpchaalheeaaDoorStateRow
import Derived.Test.YtgbhpchaalheeaaDoorCards
import Derived.Test.YtgbhpchaalheeaaDoorTie
import Derived.Test.YtgbhpchaalheeaaDoorLaid
import Derived.Test.YtgbhpchaalheeaaDoorWalk
import Derived.Deep.DeepHandedRow
namespace Go.Proofs.YtgbhpchaalheeaaDoor
open Go.Proofs.YtgbhpchaalheeaaDoor.Eng Go.RowKit Go.ChangeShapes Go.WideShapes Go.ChangeAt
set_option linter.unusedSimpArgs false
set_option linter.unusedVariables false
set_option maxHeartbeats 2000000
set_option maxRecDepth 20000

variable {F : Nat}

theorem apart_of {a b : Int} (ha : 0 ≤ a ∧ a ≤ 100000) (hb : 0 ≤ b ∧ b ≤ 100000) : m_hindcastlaw09_apart F a b = some (max (a - b) (b - a)) := by
  have w1 : IntKind.wrap .i64 a = a := wr_i64 ⟨by omega, by omega⟩
  have w2 : IntKind.wrap .i64 b = b := wr_i64 ⟨by omega, by omega⟩
  have w3 : IntKind.wrap .i64 (a - b) = a - b := wr_i64 ⟨by omega, by omega⟩
  have w4 : IntKind.wrap .i64 (b - a) = b - a := wr_i64 ⟨by omega, by omega⟩
  simp only [m_hindcastlaw09_apart, w1, w2, w3, w4]

/-- A player's part of the last question. -/
theorem far_no {ax bx ay by_ d e h a b : Int} (hk : (nearBy ax bx ∧ nearBy ay by_) ∨ (e ≠ d ∧ h = 100)) (hs : a ≤ b) :
    ((((decide (1024 < max (ax - bx) (bx - ax)) || decide (1024 < max (ay - by_) (by_ - ay))) && ((e == d) || (h != 100))) || decide (b < a)) = false) := by
  rw [decide_eq_false (show ¬ b < a by omega), Bool.or_false]
  rcases hk with ⟨h1, h2⟩ | ⟨h1, h2⟩
  · unfold nearBy at h1 h2
    rw [decide_eq_false (by omega), decide_eq_false (by omega)]
    rfl
  · rw [beq_eq_false_iff_ne.2 h1, h2]
    simp

theorem right_loop {s t : T_api_State} (hF : 10 ≤ F) (p1 : PG s.Players.1) (p2 : PG s.Players.2) (q1 : PG t.Players.1) (q2 : PG t.Players.2)
    (k1 : (nearBy s.Players.1.X t.Players.1.X ∧ nearBy s.Players.1.Y t.Players.1.Y) ∨ (t.Seed ≠ s.Seed ∧ t.Players.1.Health = 100))
    (k2 : (nearBy s.Players.2.X t.Players.2.X ∧ nearBy s.Players.2.Y t.Players.2.Y) ∨ (t.Seed ≠ s.Seed ∧ t.Players.2.Health = 100)) (s1 : s.Score.1 ≤ t.Score.1) (s2 : s.Score.2 ≤ t.Score.2) :
    m_hindcastlaw09_StepRight_L40 F s t F 0 = some (.inl false) := by
  obtain ⟨m, hm⟩ : ∃ m, F = m + 3 := ⟨F - 3, by omega⟩
  have w1 : IntKind.wrap .i64 ((0 : Int) + 1) = 1 := wr_i64 ⟨by omega, by omega⟩
  have w2 : IntKind.wrap .i64 ((1 : Int) + 1) = 2 := wr_i64 ⟨by omega, by omega⟩
  have e : m_hindcastlaw09_StepRight_L40 F s t F 0 = m_hindcastlaw09_StepRight_L40 F s t (m + 3) 0 := by rw [← hm]
  have a1 := p1.X; have a2 := p1.Y; have a3 := p2.X; have a4 := p2.Y
  have b1 := q1.X; have b2 := q1.Y; have b3 := q2.X; have b4 := q2.Y
  have x1 := apart_of (F := F) (a := s.Players.1.X) (b := t.Players.1.X) (by omega) (by omega)
  have x2 := apart_of (F := F) (a := s.Players.1.Y) (b := t.Players.1.Y) (by omega) (by omega)
  have x3 := apart_of (F := F) (a := s.Players.2.X) (b := t.Players.2.X) (by omega) (by omega)
  have x4 := apart_of (F := F) (a := s.Players.2.Y) (b := t.Players.2.Y) (by omega) (by omega)
  have f1 := far_no k1 s1
  have f2 := far_no k2 s2
  rw [e, m_hindcastlaw09_StepRight_L40.eq_2]
  simp only [show decide ((0 : Int) < 2) = true from rfl, show ((0 : Int) == 0) = true from rfl, cond_true, x1, x2, Option.bind_some, or_some, and_some, f1, cond_false, w1]
  rw [m_hindcastlaw09_StepRight_L40.eq_2]
  simp only [show decide ((1 : Int) < 2) = true from rfl, show ((1 : Int) == 0) = false from rfl, show ((1 : Int) == 1) = true from rfl, cond_true, cond_false, x3, x4, Option.bind_some, or_some, and_some, f2, w2]
  rw [m_hindcastlaw09_StepRight_L40.eq_2]
  rfl

theorem right_a {s : T_api_State} {p : Int × Int} {t : T_api_State} {c : Int} (hwk : m_hindcastlaw09_awake F = some true) (hl : ¬ (100 : Int) < (s.Shots.length : Int)) (hs : m_step_Step F s p = some t) (hc : m_state_Check F s = some c)
    (hbad : (((c != 0) || decide (63 < p.1)) || decide (63 < p.2)) = true) (he : m_state_Same F s t = some true) : m_hindcastlaw09_StepRight F s p = some true := by
  unfold m_hindcastlaw09_StepRight
  rw [decide_eq_false hl, cond_false, hs]
  simp only [Option.bind_some, hc, or_some, hbad, cond_true, he, hwk]
  rfl
theorem right_b {s : T_api_State} {p : Int × Int} {t : T_api_State} {o1 o2 : Bool} (hwk : m_hindcastlaw09_awake F = some true) (hl : ¬ (100 : Int) < (s.Shots.length : Int)) (hs : m_step_Step F s p = some t) (hc : m_state_Check F s = some 0) (hc2 : m_state_Check F t = some 0)
    (hbad : (decide (63 < p.1) || decide (63 < p.2)) = false) (hfr : t.Frame = IntKind.wrap .u64 (s.Frame + 1)) (hlen : ¬ IntKind.wrap .i64 ((s.Shots.length : Int) + 2) < (t.Shots.length : Int))
    (O1 : m_geom_Over F ⟨s.Players.1.X, s.Players.1.Y, 4096, 4096⟩ ⟨s.Players.2.X, s.Players.2.Y, 4096, 4096⟩ = some o1) (O2 : m_geom_Over F ⟨t.Players.1.X, t.Players.1.Y, 4096, 4096⟩ ⟨t.Players.2.X, t.Players.2.Y, 4096, 4096⟩ = some o2) (ho : (!o1 && o2) = false)
    (hL : m_hindcastlaw09_StepRight_L40 F s t F 0 = some (.inl false)) : m_hindcastlaw09_StepRight F s p = some true := by
  unfold m_hindcastlaw09_StepRight
  rw [decide_eq_false hl, cond_false, hs]
  simp only [Option.bind_some, hc, or_some, show ((0 : Int) != 0) = false from rfl, Bool.false_or, hbad, cond_false, hc2, hfr, bne_self_eq_false, decide_eq_false hlen, m_hindcastlaw09_box]
  rw [O1, O2]
  simp only [Option.bind_some, and_some, ho, cond_false, hL, orE_l, hwk]

theorem right_pure (hF : 200 ≤ F) (hwk : m_hindcastlaw09_awake F = some true) {s : T_api_State} {p : Int × Int} (ho : StOk s) (h1 : 0 ≤ p.1 ∧ p.1 ≤ 255) (h2 : 0 ≤ p.2 ∧ p.2 ≤ 255) : m_hindcastlaw09_StepRight F s p = some true := by
  obtain ⟨i, j⟩ := p
  simp only at h1 h2
  by_cases hl : (100 : Int) < (s.Shots.length : Int)
  · unfold m_hindcastlaw09_StepRight
    rw [decide_eq_true hl, cond_true, hwk]
    rfl
  have hs := step_of (F := F) (i := i) (j := j) ho (by omega) hF
  have hc := check_of (F := F) ho (by omega) (by omega) (by omega)
  by_cases hgo : stGood s = true ∧ i < 64 ∧ j < 64
  · have e : stepv s i j = madeOf s i j := by unfold stepv; rw [if_pos hgo]
    rw [e] at hs
    rw [if_pos hgo.1] at hc
    obtain ⟨m1, m2⟩ := made_ok (i := i) (j := j) ho hgo.1
    obtain ⟨k1, k2, k3, k4, k5, k6⟩ := made_keep (i := i) (j := j) ho hgo.1
    obtain ⟨⟨p1, _⟩, ⟨p2, _⟩, _, _⟩ := st_parts ho hgo.1
    obtain ⟨⟨q1, _⟩, ⟨q2, _⟩, _, q8⟩ := st_parts m1 m2
    have hfr : (madeOf s i j).Frame = IntKind.wrap .u64 (s.Frame + 1) := rfl
    generalize madeOf s i j = t at *
    have hc2 := check_of (F := F) m1 (by omega) (by omega) (by omega)
    rw [if_pos m2] at hc2
    have hw : IntKind.wrap .i64 ((s.Shots.length : Int) + 2) = (s.Shots.length : Int) + 2 := wr_i64 ⟨by omega, by omega⟩
    refine right_b hwk hl hs hc hc2 ?_ hfr (by rw [hw]; omega) (over_pp p1 p2) (over_pp q1 q2) ?_ (right_loop (by omega) p1 p2 q1 q2 k1 k2 k4 k5)
    · rw [Bool.or_eq_false_iff, decide_eq_false_iff_not, decide_eq_false_iff_not]; simp only; omega
    · cases hx : overP s.Players.1 s.Players.2
      · rw [k3 hx]; rfl
      · rfl
  · have e : stepv s i j = s := by unfold stepv; rw [if_neg hgo]
    rw [e] at hs
    have he := same_of (F := F) (a := s) (b := s) (by omega) (by omega)
    rw [stE_refl] at he
    refine right_a hwk hl hs hc ?_ he
    by_cases hg : stGood s = true
    · rw [if_pos hg]
      have : 63 < i ∨ 63 < j := by
        by_cases hi : 63 < i
        · exact .inl hi
        · by_cases hj : 63 < j
          · exact .inr hj
          · exact absurd ⟨hg, by omega, by omega⟩ hgo
      rcases this with hh | hh
      · rw [decide_eq_true hh]; simp
      · rw [decide_eq_true hh]; simp
    · rw [if_neg hg]; rfl

theorem right_awake : m_hindcastlaw09_awake 300 = some true := by kernel_rfl

theorem pair_rd {w : World} {m : Nat} {cs : List Value} (h : Rdw TT w (m + 2) 33 cs) : ∃ x : Int × Int, cs = e2 .u8 x ∧ (0 ≤ x.1 ∧ x.1 ≤ 255) ∧ (0 ≤ x.2 ∧ x.2 ≤ 255) := by
  obtain ⟨hl, hf⟩ := rd_arr h rfl
  match cs, hl with
  | [a, b], _ =>
    obtain ⟨x, rfl, wx⟩ := rd_cell (hf 0 (by omega)) rfl
    obtain ⟨y, rfl, wy⟩ := rd_cell (hf 1 (by omega)) rfl
    exact ⟨(x, y), rfl, wf_u8 wx, wf_u8 wy⟩

theorem stepRight_walk (W : World) (hG : Rds W [] [] (some ⟨0, 0, none⟩) (flat (fun _ : Unit => gl_state_playerBounds) [()]) ∧ Rds W [] [] (some ⟨1, 0, none⟩) (flat (fun _ : Unit => gl_state_shotBounds) [()]))
    (c0 c1 : List Value) (R0 : Rdw TT W 8 30 c0) (R1 : Rdw TT W 8 33 c1) :
    Calls Tryd.prog 7 #[.agg c0.toArray, .agg c1.toArray] W fun e w' => e = .returned (.bool true) ∧ Inv W [] w' [] := by
  obtain ⟨s, a, n, cap, rfl, hn, hc, hr, hok⟩ := state_rd R0
  obtain ⟨p, rfl, g1, g2⟩ := pair_rd R1
  exact (k_hindcastlaw09_StepRight hn hc (right_pure (F := 300) (by omega) right_awake hok g1 g2)).run W ⟨hr, hG⟩

noncomputable def stepRight_world (os : Os) : World :=
  { World.holding Tryd.prog os ⟨#[], #[], []⟩ with heap := ((World.holding Tryd.prog os ⟨#[], #[], []⟩).heap.modify 0 fun | .cells _ t frozen => .cells gl_state_playerBounds.toArray t frozen | o => o).modify 1 fun | .cells _ t frozen => .cells gl_state_shotBounds.toArray t frozen | o => o }
theorem stepRight_laid_met (os : Os) : laidMet Tryd.prog Rows.stepRightRow.laid ((stepRight_world os).forCall (fun _ _ => 0) ⟨#[], #[.agg #[(.int .u64 0), (.int .u64 0), (.int .i32 0), (.int .i32 0), (.int .i32 0), (.int .i32 0), (.int .u8 0), (.int .u8 0), (.int .u8 0), (.int .i32 0), (.int .i32 0), (.int .i32 0), (.int .i32 0), (.int .u8 0), (.int .u8 0), (.int .u8 0), (.slice none 0 0), (.int .u16 0), (.int .u16 0)], .agg #[(.int .u8 0), (.int .u8 0)]], []⟩).memory := laidMet_of_run' 8 (by kernel_rfl) (by kernel_rfl)
theorem stepRight_reads (os : Os) {H : Type} (enc : TypeId × Value → H) : ∃ places, DataW.whole enc Tryd.prog ((stepRight_world os).forCall (fun _ _ => 0) ⟨#[], #[.agg #[(.int .u64 0), (.int .u64 0), (.int .i32 0), (.int .i32 0), (.int .i32 0), (.int .i32 0), (.int .u8 0), (.int .u8 0), (.int .u8 0), (.int .i32 0), (.int .i32 0), (.int .i32 0), (.int .i32 0), (.int .u8 0), (.int .u8 0), (.int .u8 0), (.slice none 0 0), (.int .u16 0), (.int .u16 0)], .agg #[(.int .u8 0), (.int .u8 0)]], []⟩).memory Tryd.f7.params.toList Rows.stepRightSpec.vars false (#[.agg #[(.int .u64 0), (.int .u64 0), (.int .i32 0), (.int .i32 0), (.int .i32 0), (.int .i32 0), (.int .u8 0), (.int .u8 0), (.int .u8 0), (.int .i32 0), (.int .i32 0), (.int .i32 0), (.int .i32 0), (.int .u8 0), (.int .u8 0), (.int .u8 0), (.slice none 0 0), (.int .u16 0), (.int .u16 0)], .agg #[(.int .u8 0), (.int .u8 0)]] : Array Value).toList 8 = some ([.agg [.lit (.int .u64 0), .lit (.int .u64 0), .agg [.agg [.lit (.int .i32 0), .lit (.int .i32 0), .lit (.int .i32 0), .lit (.int .i32 0), .lit (.int .u8 0), .lit (.int .u8 0), .lit (.int .u8 0)], .agg [.lit (.int .i32 0), .lit (.int .i32 0), .lit (.int .i32 0), .lit (.int .i32 0), .lit (.int .u8 0), .lit (.int .u8 0), .lit (.int .u8 0)]], .nil, .agg [.lit (.int .u16 0), .lit (.int .u16 0)]], .agg [.lit (.int .u8 0), .lit (.int .u8 0)]], [], places) := ⟨[], by kernel_rfl⟩
set_option maxRecDepth 100000 in
theorem stepRight_lifted (os : Os) (started : os.Started) (H : Type) (enc : TypeId × Value → H) (F : Stop.Interp) :
    ReturnsInHanded {} Tryd.checked os 7 .any ((OpenSpec.ofChange Rows.stepRightSpec).preRow enc Tryd.prog Tryd.f7 Rows.stepRightRow.domain false Rows.stepRightRow.laid) (((OpenSpec.ofChange Rows.stepRightSpec).at F).post enc Tryd.prog Tryd.f7 false true false false) := by
  obtain ⟨places, hx⟩ := stepRight_reads os enc
  refine returnsInHanded_of_row (C := Tryd.checked) (s := OpenSpec.ofChange Rows.stepRightSpec) (by kernel_rfl) started (by kernel_rfl) Tryd.func7
    (witness_row_at (enc := enc) (C := Tryd.checked) false (stepRight_world os) #[.agg #[(.int .u64 0), (.int .u64 0), (.int .i32 0), (.int .i32 0), (.int .i32 0), (.int .i32 0), (.int .u8 0), (.int .u8 0), (.int .u8 0), (.int .i32 0), (.int .i32 0), (.int .i32 0), (.int .i32 0), (.int .u8 0), (.int .u8 0), (.int .u8 0), (.slice none 0 0), (.int .u16 0), (.int .u16 0)], .agg #[(.int .u8 0), (.int .u8 0)]] rfl (by kernel_rfl) (by kernel_rfl) (by kernel_rfl)
      (OpenSpec.preRow_of_cond 8 hx (by kernel_rfl) (fun k hk => by cases hk) (by kernel_rfl) (stepRight_laid_met os))) ?_
  intro W base args ds gs before hval0 hW hcnd hk0 hsz0 hL _ _
  have hG := laid_cells hL
  have hval : ∀ (j : Nat) t v, Tryd.f7.params[j]? = some t → args[j]? = some v → Value.okWide Tryd.prog W .any base t v := hval0
  have hW' := hW
  obtain ⟨p, q, hA0, hV, rfl, hfz, hnd⟩ := hW
  have hA : DataW.TrodAll enc Tryd.prog W 0 (fun _ => true) true Tryd.f7.params.toList args.toList ds p := hA0
  obtain ⟨rfl, rfl⟩ := trodVars_none hV
  have hsz : ∀ x ∈ DataW.weightsEach Tryd.prog Tryd.f7.params.toList ds, x ≤ maxB := by
    have h1 : (DataW.weightsEach Tryd.prog (Tryd.f7.params.toList ++ []) (ds ++ [])).all (· ≤ reachBytes) = true := hsz0
    simp only [List.append_nil] at h1
    intro x hx; have h2 := List.all_eq_true.1 h1 x hx; simp only [decide_eq_true_eq] at h2; exact h2
  rw [Tryd.params7] at hA hval hsz
  have hR := rdw_all tt_ok ctt_ok (closed_of tt_closed) (fun _ => rfl) 8 hA hsz
  have hback := fun (W2 : World) (hb : Below W.heap.size W W2) => trodAll_below (by kernel_rfl : laidOutB Tryd.prog = true) hb (by kernel_rfl) hA
  obtain ⟨v0, vs0, d0, ds0, p0, q0, hargs, rfl, rfl, h0, r0⟩ := trodAll_cons hA
  obtain ⟨v1, vs1, d1, ds1, p1, q1, rfl, rfl, rfl, h1, r1⟩ := trodAll_cons r0
  obtain ⟨rfl, rfl, rfl⟩ := trodAll_nil r1
  obtain rfl : args = #[v0, v1] := by cases args; simp_all
  have R0 := hR 0 30 v0 rfl rfl
  have e0 := val_agg tt_ok (t := 30) rfl rfl (hval 0 30 v0 rfl rfl)
  generalize v0.cells.toList = c0 at e0 R0
  subst e0
  have R1 := hR 1 33 v1 rfl rfl
  have e1 := val_agg tt_ok (t := 33) rfl rfl (hval 1 33 v1 rfl rfl)
  generalize v1.cells.toList = c1 at e1 R1
  subst e1
  clear hval hval0 hsz hsz0 hR hA0
  refine (stepRight_walk W hG c0 c1 R0 R1).mono fun e W2 ⟨he, hI⟩ => ?_
  subst he
  exact ⟨_, rfl, _, _, _, [], _, [], hW', trodAll_mk1 (shut_bool Tryd.underlying4 _), hback _ (below_of_inv hI), rfl, (below_of_inv hI).frame _, fun h => by cases h⟩

theorem stepRight_said : Rows.StepRightSaid :=
  OpenClaim.holds_of_cond 7 Tryd.f7 rfl rfl rfl rfl rfl rfl rfl ⟨rfl, rfl, rfl, rfl, rfl⟩ rfl rfl rfl rfl rfl (by kernel_rfl) Tryd.func7 (by kernel_rfl)
    (of_decide_eq_true (by kernel_rfl)) (by unfold Func.isWrapper; first | (rw [if_pos (by decide +kernel)]; kernel_rfl) | (rw [if_neg (by decide +kernel)]; exact ⟨rfl, rfl⟩))
    (fun os started H enc _ F => by rw [OpenClaim.pre_eq_preRow]; exact stepRight_lifted os started H enc F)

theorem stepRight_plain (f : FuncId) (fn : Func) (hf : Tryd.pinned.checked.prog.funcNamed "hindcast/hindcastlaw09.StepRight" = some f) (hfn : Tryd.pinned.checked.prog.funcs[f]? = some fn) :
    false = Tryd.pinned.checked.prog.looks [] ∧ ∀ (j : Nat) t, fn.params[j]? = some t → Tryd.pinned.checked.prog.wantsStandIn t = false := by
  obtain rfl : f = 7 := Option.some.inj ((show Tryd.prog.funcNamed "hindcast/hindcastlaw09.StepRight" = some 7 by kernel_rfl).symm.trans hf) |>.symm
  obtain rfl : fn = Tryd.f7 := (Option.some.inj (Tryd.func7.symm.trans hfn)).symm
  refine ⟨by kernel_rfl, fun j t ht => ?_⟩
  rw [Tryd.params7] at ht
  have hm : t ∈ [30, 33] := by simpa using Array.mem_of_getElem? ht
  have hall : ([30, 33].all fun u => !Tryd.prog.wantsStandIn u) = true := by kernel_rfl
  exact (show Tryd.prog.wantsStandIn t = false by simpa using List.all_eq_true.1 hall t hm)

theorem stepRight_holds : Rows.StepRightCardSaid :=
  Claim7.holds_tied_plain_at .later [] _ _ _ _ stepRight_said (fun _ h => by cases h) (by kernel_rfl) (fun _ h => by cases h) stepRight_row_tie rfl ⟨rfl, rfl⟩ (by kernel_rfl) rfl stepRight_plain (by kernel_rfl)

end Go.Proofs.YtgbhpchaalheeaaDoor
