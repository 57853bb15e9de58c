/-
  Chapter 08: the law StateBack: a state's bytes are read as the state; the same bytes are the same state.
-/
import Derived.Test.YtekplmhmppdpcaaDoorStateModel
import Derived.Test.YtekplmhmppdpcaaDoorStateRow
import Derived.Test.YtekplmhmppdpcaaDoorCards
import Derived.Test.YtekplmhmppdpcaaDoorTie
import Derived.Test.YtekplmhmppdpcaaDoorLaid
import Derived.Test.YtekplmhmppdpcaaDoorWalk
import Derived.Deep.DeepHandedRow
namespace Go.Proofs.YtekplmhmppdpcaaDoor
open Go.Proofs.YtekplmhmppdpcaaDoor.Eng Go.RowKit Go.ChangeShapes Go.WideShapes Go.ChangeAt
set_option linter.unusedSimpArgs false
set_option linter.unusedVariables false
set_option maxHeartbeats 2000000
set_option maxRecDepth 20000

variable {F : Nat}

theorem near_of {n lo hi : Int} (h : -2147483648 ≤ n ∧ n ≤ 2147483647) (hl : -100000 ≤ lo) (hlh : lo ≤ hi) (hh : hi ≤ 100000) : ∃ r, m_hindcastlaw08_near F n lo hi = some r ∧ lo ≤ r ∧ r ≤ hi := by
  have w1 : IntKind.wrap .i64 n = n := wr_i64 ⟨by omega, by omega⟩
  have w2 : IntKind.wrap .i64 lo = lo := wr_i64 ⟨by omega, by omega⟩
  have w3 : IntKind.wrap .i64 hi = hi := wr_i64 ⟨by omega, by omega⟩
  have w4 : IntKind.wrap .i64 (hi - lo) = hi - lo := wr_i64 ⟨by omega, by omega⟩
  have w5 : IntKind.wrap .i64 (hi - lo + 1) = hi - lo + 1 := wr_i64 ⟨by omega, by omega⟩
  obtain ⟨w, hw⟩ : ∃ w, w = hi - lo + 1 := ⟨_, rfl⟩
  have hwp : 0 < w := by omega
  have t1 : Int.tmod n w < w := Int.tmod_lt_of_pos _ hwp
  have t2 : -w < Int.tmod n w := by
    have := Int.lt_tmod_of_pos n hwp
    exact this
  have w5' : IntKind.wrap .i64 w = w := wr_i64 ⟨by omega, by omega⟩
  have w6 : IntKind.wrap .i64 (Int.tmod n w + w) = Int.tmod n w + w := wr_i64 ⟨by omega, by omega⟩
  have t3 : 0 ≤ Int.tmod (Int.tmod n w + w) w := Int.tmod_nonneg _ (by omega)
  have t4 : Int.tmod (Int.tmod n w + w) w < w := Int.tmod_lt_of_pos _ hwp
  have r1 : remI n w = some (Int.tmod n w) := by unfold remI; rw [if_neg (by omega)]
  have r2 : remI (Int.tmod n w + w) w = some (Int.tmod (Int.tmod n w + w) w) := by unfold remI; rw [if_neg (by omega)]
  simp only [m_hindcastlaw08_near, w1, w2, w3, w4, ← hw, w5', r1, w6, r2, Option.bind_some]
  generalize Int.tmod (Int.tmod n w + w) w = q at *
  refine ⟨_, rfl, ?_⟩
  rw [wr_i64 (x := lo + q) ⟨by omega, by omega⟩, wr_i32 ⟨by omega, by omega⟩]
  omega

theorem tm {n : Int} (h : 0 ≤ n) (k : Int) (hk : 0 < k) : 0 ≤ Int.tmod n k ∧ Int.tmod n k < k := ⟨Int.tmod_nonneg _ h, Int.tmod_lt_of_pos _ hk⟩

theorem madeP {p : T_api_Player} (h : PlOk p) : ∃ x y vx vy, m_hindcastlaw08_near F p.X 0 61440 = some x ∧ m_hindcastlaw08_near F p.Y 0 28672 = some y ∧ m_hindcastlaw08_near F p.VX (-1024) 1024 = some vx ∧ m_hindcastlaw08_near F p.VY (-1024) 1024 = some vy ∧
    PlOk ⟨x, y, vx, vy, IntKind.wrap .u8 (1 + Int.tmod p.Health 100), Int.tmod p.Cool 31, Int.tmod p.Face 4⟩ ∧ plGood ⟨x, y, vx, vy, IntKind.wrap .u8 (1 + Int.tmod p.Health 100), Int.tmod p.Cool 31, Int.tmod p.Face 4⟩ = true := by
  obtain ⟨x, e1, b1⟩ := near_of (F := F) (lo := 0) (hi := 61440) h.X (by omega) (by omega) (by omega)
  obtain ⟨y, e2, b2⟩ := near_of (F := F) (lo := 0) (hi := 28672) h.Y (by omega) (by omega) (by omega)
  obtain ⟨vx, e3, b3⟩ := near_of (F := F) (lo := -1024) (hi := 1024) h.VX (by omega) (by omega) (by omega)
  obtain ⟨vy, e4, b4⟩ := near_of (F := F) (lo := -1024) (hi := 1024) h.VY (by omega) (by omega) (by omega)
  have m1 := tm h.Health.1 100 (by omega)
  have m2 := tm h.Cool.1 31 (by omega)
  have m3 := tm h.Face.1 4 (by omega)
  generalize Int.tmod p.Health 100 = a at *
  generalize Int.tmod p.Cool 31 = b at *
  generalize Int.tmod p.Face 4 = c at *
  have hw : IntKind.wrap .u8 (1 + a) = 1 + a := wr_u8 ⟨by omega, by omega⟩
  refine ⟨x, y, vx, vy, e1, e2, e3, e4, ?_, ?_⟩
  · rw [hw]
    exact ⟨by simp only; omega, by simp only; omega, by simp only; omega, by simp only; omega, by simp only; omega, by simp only; omega, by simp only; omega⟩
  · rw [hw]
    unfold plGood
    rw [decide_eq_true_eq]
    simp only
    omega

theorem madeS {p : T_api_Shot} (h : ShOk p) : ∃ x y vx vy, m_hindcastlaw08_near F p.X 0 65024 = some x ∧ m_hindcastlaw08_near F p.Y 0 32256 = some y ∧ m_hindcastlaw08_near F p.VX (-2048) 2048 = some vx ∧ m_hindcastlaw08_near F p.VY (-2048) 2048 = some vy ∧
    ShOk ⟨x, y, vx, vy, Int.tmod p.Owner 2, IntKind.wrap .u8 (1 + Int.tmod p.Life 40)⟩ ∧ shGood ⟨x, y, vx, vy, Int.tmod p.Owner 2, IntKind.wrap .u8 (1 + Int.tmod p.Life 40)⟩ = true := by
  obtain ⟨x, e1, b1⟩ := near_of (F := F) (lo := 0) (hi := 65024) h.X (by omega) (by omega) (by omega)
  obtain ⟨y, e2, b2⟩ := near_of (F := F) (lo := 0) (hi := 32256) h.Y (by omega) (by omega) (by omega)
  obtain ⟨vx, e3, b3⟩ := near_of (F := F) (lo := -2048) (hi := 2048) h.VX (by omega) (by omega) (by omega)
  obtain ⟨vy, e4, b4⟩ := near_of (F := F) (lo := -2048) (hi := 2048) h.VY (by omega) (by omega) (by omega)
  have m1 := tm h.Owner.1 2 (by omega)
  have m2 := tm h.Life.1 40 (by omega)
  generalize Int.tmod p.Owner 2 = a at *
  generalize Int.tmod p.Life 40 = b at *
  have hw : IntKind.wrap .u8 (1 + b) = 1 + b := wr_u8 ⟨by omega, by omega⟩
  refine ⟨x, y, vx, vy, e1, e2, e3, e4, ?_, ?_⟩
  · rw [hw]
    exact ⟨by simp only; omega, by simp only; omega, by simp only; omega, by simp only; omega, by simp only; omega, by simp only; omega⟩
  · rw [hw]
    unfold shGood
    rw [decide_eq_true_eq]
    simp only
    omega

theorem made_shots {s : T_api_State} (ho : ∀ x ∈ s.Shots, ShOk x) : ∀ (m i : Nat) (acc : List T_api_Shot), 8 - i < m → i ≤ 8 → acc.length = i → (∀ x ∈ acc, ShOk x ∧ shGood x = true) →
    ∃ l, m_hindcastlaw08_made_L27 F s m (i : Int) acc = some l ∧ l.length ≤ 8 ∧ ∀ x ∈ l, ShOk x ∧ shGood x = true
  | 0, i, acc, hm, _, _, _ => by omega
  | m + 1, i, acc, hm, hi, hl, ha => by
    rw [m_hindcastlaw08_made_L27.eq_2, and_some]
    simp only [Option.bind_some]
    by_cases h1 : i < s.Shots.length ∧ i < 8
    · have hx : s.Shots[i]? = some s.Shots[i] := List.getElem?_eq_getElem h1.1
      have hw : IntKind.wrap .i64 ((i : Int) + 1) = ((i + 1 : Nat) : Int) := by rw [wr_i64 ⟨by omega, by omega⟩]; omega
      obtain ⟨x, y, vx, vy, e1, e2, e3, e4, ok, good⟩ := madeS (F := F) (ho _ (List.mem_of_getElem? hx))
      simp only [decide_eq_true (show (i : Int) < (s.Shots.length : Int) by omega), decide_eq_true (show (i : Int) < 8 by omega), Bool.and_self, cond_true, getI_nat, hx, Option.bind_some, e1, e2, e3, e4]
      rw [appI_of (by simp; omega)]
      simp only [Option.bind_some, hw]
      refine made_shots ho m (i + 1) _ (by omega) (by omega) (by simp [hl]) (fun q hq => ?_)
      rcases List.mem_append.1 hq with hq | hq
      · exact ha q hq
      · obtain rfl := List.mem_singleton.1 hq
        exact ⟨ok, good⟩
    · have : (decide ((i : Int) < (s.Shots.length : Int)) && decide ((i : Int) < 8)) = false := by
        rw [Bool.and_eq_false_iff, decide_eq_false_iff_not, decide_eq_false_iff_not]; omega
      rw [this]
      exact ⟨acc, rfl, by omega, ha⟩

theorem made_of {s : T_api_State} (ho : StOk s) (hF : 20 ≤ F) : ∃ t, m_hindcastlaw08_made F s = some t ∧ StOk t ∧ stGood t = true := by
  obtain ⟨x, y, vx, vy, e1, e2, e3, e4, ok, good⟩ := madeP (F := F) ho.P1
  obtain ⟨x', y', vx', vy', e1', e2', e3', e4', ok', good'⟩ := madeP (F := F) ho.P2
  obtain ⟨l, hl, hl8, hlo⟩ := made_shots (F := F) ho.Shots F 0 [] (by omega) (by omega) rfl (by simp)
  have hl' : m_hindcastlaw08_made_L27 F s F 0 [] = some l := hl
  obtain ⟨m, hm⟩ : ∃ m, F = m + 3 := ⟨F - 3, by omega⟩
  have w1 : IntKind.wrap .i64 ((0 : Int) + 1) = 1 := wr_i64 ⟨by omega, by omega⟩
  have w2 : IntKind.wrap .i64 ((1 : Int) + 1) = 2 := wr_i64 ⟨by omega, by omega⟩
  have hp : ∀ q, ∃ r, m_hindcastlaw08_made_L8 F s F 0 q = some r ∧ PlOk r.1 ∧ PlOk r.2 ∧ plGood r.1 = true ∧ plGood r.2 = true := by
    intro q
    have e : m_hindcastlaw08_made_L8 F s F = m_hindcastlaw08_made_L8 F s (m + 3) := by rw [← hm]
    rw [e]
    simp only [m_hindcastlaw08_made_L8, e1, e2, e3, e4, e1', e2', e3', e4', Option.bind_some, w1, w2, show decide ((0 : Int) < 2) = true from rfl, show decide ((1 : Int) < 2) = true from rfl, show decide ((2 : Int) < 2) = false from rfl,
      show ((0 : Int) == 0) = true from rfl, show ((1 : Int) == 0) = false from rfl, show ((1 : Int) == 1) = true from rfl, cond_true, cond_false]
    exact ⟨_, rfl, ok, ok', good, good'⟩
  obtain ⟨r, hr, r1, r2, r3, r4⟩ := hp s.Players
  refine ⟨⟨s.Frame, s.Seed, r, l, s.Score⟩, ?_, ⟨ho.Frame, ho.Seed, r1, r2, fun x hx => (hlo x hx).1, ho.Sc1, ho.Sc2⟩, ?_⟩
  · simp only [m_hindcastlaw08_made, hr, hl', Option.bind_some]
  · unfold stGood
    rw [r3, r4, decide_eq_true hl8, List.all_eq_true.2 fun x hx => (hlo x hx).2]
    rfl

theorem back_pure (hF : 200 ≤ F) (hwk : m_hindcastlaw08_works F = some true) {a b : T_api_State} {cut : Int} (ha : StOk a) (hb : StOk b) (hc : 0 ≤ cut ∧ cut ≤ 65535) : m_hindcastlaw08_StateBack F a b cut = some true := by
  obtain ⟨s, m1, s1, s2⟩ := made_of (F := F) ha (by omega)
  obtain ⟨t, m2, t1, t2⟩ := made_of (F := F) hb (by omega)
  have sl := stGood_leI s2
  have tl := stGood_leI t2
  have p1 := put_of (F := F) s1 (by omega) (by omega) (by omega)
  have p2 := put_of (F := F) t1 (by omega) (by omega) (by omega)
  have c1 := check_of (F := F) s1 (by omega) (by omega) (by omega)
  rw [s2, if_pos rfl] at p1 c1
  rw [t2, if_pos rfl] at p2
  have pos : ∀ u : T_api_State, 16 ≤ (stB u).length := fun u => by simp [stB, iL_length, le_length]; omega
  have ne : ∀ u : T_api_State, (toB (stB u) == ([] : List UInt8)) = false := fun u => by
    rw [beq_eq_false_iff_ne]
    intro h
    have h1 := congrArg List.length h
    have h2 := pos u
    rw [toB_length, List.length_nil] at h1
    omega
  have len : (stB s).length ≤ 1000 := by
    have h1 := vb_length 9 s.Shots.length
    simp [stB, iL_length, le_length, plB_length, shsB_length]; omega
  have k1 := take_of (F := F) (S := toB (stB s)) (by rw [toB_length]; omega) (by omega)
  have b1 := take_back (r := []) s1 s2
  rw [List.append_nil, if_pos rfl] at b1
  rw [b1] at k1
  have b2 := take_back (r := []) t1 t2
  rw [List.append_nil, if_pos rfl] at b2
  have e1 := same_of (F := F) (a := s) (b := s) (by omega) (by omega)
  have e2 := same_of (F := F) (a := s) (b := t) (by omega) (by omega)
  rw [stE_refl] at e1
  have heq : ((toB (stB s) == toB (stB t)) == stE s t) = true := by
    rw [beq_iff_eq]
    cases hq : stE s t
    · rw [beq_eq_false_iff_ne]
      intro h
      rw [h, b2] at b1
      have : t = s := (Prod.mk.inj b1).1
      rw [this, stE_refl] at hq
      cases hq
    · rw [stE_iff.1 hq]; exact beq_self_eq_true _
  obtain ⟨c, rfl⟩ := Int.eq_ofNat_of_zero_le hc.1
  have hps := pos s
  have hrem : remI (c : Int) ((toB (stB s)).length : Int) = some ((c % (stB s).length : Nat) : Int) := by
    unfold remI
    rw [toB_length, if_neg (by omega)]
    rfl
  have hwc : IntKind.wrap .i64 (c : Int) = (c : Int) := wr_i64 ⟨by omega, by omega⟩
  have hlt : c % (stB s).length < (stB s).length := Nat.mod_lt _ (by omega)
  have hcut : cutI (toB (stB s)) 0 ((c % (stB s).length : Nat) : Int) = some ((toB (stB s)).take (c % (stB s).length)) := cutI_of (i := 0) (j := c % (stB s).length) rfl rfl (by omega) (by rw [toB_length]; omega) (by simp)
  have k2 := take_of (F := F) (S := (toB (stB s)).take (c % (stB s).length)) (by rw [List.length_take, toB_length]; omega) (by omega)
  rw [take_torn s1 s2 (by rw [toB_length]; exact hlt)] at k2
  have k3 := take_of (F := F) (S := toB (stB s) ++ [0]) (by rw [List.length_append, toB_length]; simp; omega) (by omega)
  rw [take_back (r := [0]) s1 s2, if_neg (by simp)] at k3
  have hap : appI (toB (stB s)) ([0] : List UInt8) = some (toB (stB s) ++ [0]) := appI_of (by rw [toB_length]; simp; omega)
  have hs := same_of (F := F) (a := zeroS) (b := zeroS) (by simp [zeroS]) (by simp [zeroS]; omega)
  rw [stE_refl] at hs
  have hs' : m_state_Same F zeroS (T_api_State.mk (0 : Int) (0 : Int) ((T_api_Player.mk (0 : Int) (0 : Int) (0 : Int) (0 : Int) (0 : Int) (0 : Int) (0 : Int)), (T_api_Player.mk (0 : Int) (0 : Int) (0 : Int) (0 : Int) (0 : Int) (0 : Int) (0 : Int))) ([] : List T_api_Shot) ((0 : Int), (0 : Int))) = some true := hs
  have f1 : m_hindcastlaw08_fails F ((toB (stB s)).take (c % (stB s).length)) 10 = some true := by
    simp only [m_hindcastlaw08_fails, k2, Option.bind_some, beq_self_eq_true, cond_true, hs']
  have f2 : m_hindcastlaw08_fails F (toB (stB s) ++ [0]) 4 = some true := by
    simp only [m_hindcastlaw08_fails, k3, Option.bind_some, beq_self_eq_true, cond_true, hs']
  simp only [m_hindcastlaw08_StateBack, m1, m2, p1, p2, ne, c1, k1, e1, e2, heq, hwc, hrem, hcut, f1, hap, f2, hwk, Option.bind_some, cond_false, show ((0 : Int) != 0) = false from rfl, beq_self_eq_true, cond_true]

theorem back_works : m_hindcastlaw08_works 300 = some true := by kernel_rfl

theorem stateBack_walk (W : World) (hG : Rds W [] [] (some ⟨0, 0, none⟩) (flat (fun _ : Unit => gl_state_playerBounds) [()]) ∧ Rds W [] [] (some ⟨1, 0, none⟩) (flat (fun _ : Unit => gl_state_shotBounds) [()]))
    (c0 c1 : List Value) (v2 : Value) (R0 : Rdw TT W 8 30 c0) (R1 : Rdw TT W 8 30 c1) (R2 : Rdw TT W 8 27 [v2]) :
    Calls Tryd.prog 5 #[.agg c0.toArray, .agg c1.toArray, v2] W fun e w' => e = .returned (.bool true) ∧ Inv W [] w' [] := by
  obtain ⟨s, a, n, cap, rfl, hn, hc, hr, hok⟩ := state_rd R0
  obtain ⟨t, a2, n2, cap2, rfl, hn2, hc2, hr2, hok2⟩ := state_rd R1
  obtain ⟨z, rfl, wz⟩ := rd_cell R2 rfl
  exact (k_hindcastlaw08_StateBack hn hc hn2 hc2 (back_pure (F := 300) (by omega) back_works hok hok2 (wf_u16 wz))).run W ⟨hr, hr2, hG⟩

noncomputable def stateBack_world (os : Os) : World :=
  { World.holding Tryd.prog os ⟨#[], #[], []⟩ with heap := ((World.holding Tryd.prog os ⟨#[], #[], []⟩).heap.modify 0 fun | .cells _ t frozen => .cells gl_state_playerBounds.toArray t frozen | o => o).modify 1 fun | .cells _ t frozen => .cells gl_state_shotBounds.toArray t frozen | o => o }
theorem stateBack_laid_met (os : Os) : laidMet Tryd.prog Rows.stateBackRow.laid ((stateBack_world os).forCall (fun _ _ => 0) ⟨#[], #[.agg #[(.int .u64 0), (.int .u64 0), (.int .i32 0), (.int .i32 0), (.int .i32 0), (.int .i32 0), (.int .u8 0), (.int .u8 0), (.int .u8 0), (.int .i32 0), (.int .i32 0), (.int .i32 0), (.int .i32 0), (.int .u8 0), (.int .u8 0), (.int .u8 0), (.slice none 0 0), (.int .u16 0), (.int .u16 0)], .agg #[(.int .u64 0), (.int .u64 0), (.int .i32 0), (.int .i32 0), (.int .i32 0), (.int .i32 0), (.int .u8 0), (.int .u8 0), (.int .u8 0), (.int .i32 0), (.int .i32 0), (.int .i32 0), (.int .i32 0), (.int .u8 0), (.int .u8 0), (.int .u8 0), (.slice none 0 0), (.int .u16 0), (.int .u16 0)], .int .u16 0], []⟩).memory := laidMet_of_run' 8 (by kernel_rfl) (by kernel_rfl)
theorem stateBack_reads (os : Os) {H : Type} (enc : TypeId × Value → H) : ∃ places, DataW.whole enc Tryd.prog ((stateBack_world os).forCall (fun _ _ => 0) ⟨#[], #[.agg #[(.int .u64 0), (.int .u64 0), (.int .i32 0), (.int .i32 0), (.int .i32 0), (.int .i32 0), (.int .u8 0), (.int .u8 0), (.int .u8 0), (.int .i32 0), (.int .i32 0), (.int .i32 0), (.int .i32 0), (.int .u8 0), (.int .u8 0), (.int .u8 0), (.slice none 0 0), (.int .u16 0), (.int .u16 0)], .agg #[(.int .u64 0), (.int .u64 0), (.int .i32 0), (.int .i32 0), (.int .i32 0), (.int .i32 0), (.int .u8 0), (.int .u8 0), (.int .u8 0), (.int .i32 0), (.int .i32 0), (.int .i32 0), (.int .i32 0), (.int .u8 0), (.int .u8 0), (.int .u8 0), (.slice none 0 0), (.int .u16 0), (.int .u16 0)], .int .u16 0], []⟩).memory Tryd.f5.params.toList Rows.stateBackSpec.vars false (#[.agg #[(.int .u64 0), (.int .u64 0), (.int .i32 0), (.int .i32 0), (.int .i32 0), (.int .i32 0), (.int .u8 0), (.int .u8 0), (.int .u8 0), (.int .i32 0), (.int .i32 0), (.int .i32 0), (.int .i32 0), (.int .u8 0), (.int .u8 0), (.int .u8 0), (.slice none 0 0), (.int .u16 0), (.int .u16 0)], .agg #[(.int .u64 0), (.int .u64 0), (.int .i32 0), (.int .i32 0), (.int .i32 0), (.int .i32 0), (.int .u8 0), (.int .u8 0), (.int .u8 0), (.int .i32 0), (.int .i32 0), (.int .i32 0), (.int .i32 0), (.int .u8 0), (.int .u8 0), (.int .u8 0), (.slice none 0 0), (.int .u16 0), (.int .u16 0)], .int .u16 0] : Array Value).toList 8 = some ([.agg [.lit (.int .u64 0), .lit (.int .u64 0), .agg [.agg [.lit (.int .i32 0), .lit (.int .i32 0), .lit (.int .i32 0), .lit (.int .i32 0), .lit (.int .u8 0), .lit (.int .u8 0), .lit (.int .u8 0)], .agg [.lit (.int .i32 0), .lit (.int .i32 0), .lit (.int .i32 0), .lit (.int .i32 0), .lit (.int .u8 0), .lit (.int .u8 0), .lit (.int .u8 0)]], .nil, .agg [.lit (.int .u16 0), .lit (.int .u16 0)]], .agg [.lit (.int .u64 0), .lit (.int .u64 0), .agg [.agg [.lit (.int .i32 0), .lit (.int .i32 0), .lit (.int .i32 0), .lit (.int .i32 0), .lit (.int .u8 0), .lit (.int .u8 0), .lit (.int .u8 0)], .agg [.lit (.int .i32 0), .lit (.int .i32 0), .lit (.int .i32 0), .lit (.int .i32 0), .lit (.int .u8 0), .lit (.int .u8 0), .lit (.int .u8 0)]], .nil, .agg [.lit (.int .u16 0), .lit (.int .u16 0)]], .lit (.int .u16 0)], [], places) := ⟨[], by kernel_rfl⟩
set_option maxRecDepth 100000 in
theorem stateBack_lifted (os : Os) (started : os.Started) (H : Type) (enc : TypeId × Value → H) (F : Stop.Interp) :
    ReturnsInHanded {} Tryd.checked os 5 .any ((OpenSpec.ofChange Rows.stateBackSpec).preRow enc Tryd.prog Tryd.f5 Rows.stateBackRow.domain false Rows.stateBackRow.laid) (((OpenSpec.ofChange Rows.stateBackSpec).at F).post enc Tryd.prog Tryd.f5 false true false false) := by
  obtain ⟨places, hx⟩ := stateBack_reads os enc
  refine returnsInHanded_of_row (C := Tryd.checked) (s := OpenSpec.ofChange Rows.stateBackSpec) (by kernel_rfl) started (by kernel_rfl) Tryd.func5
    (witness_row_at (enc := enc) (C := Tryd.checked) false (stateBack_world os) #[.agg #[(.int .u64 0), (.int .u64 0), (.int .i32 0), (.int .i32 0), (.int .i32 0), (.int .i32 0), (.int .u8 0), (.int .u8 0), (.int .u8 0), (.int .i32 0), (.int .i32 0), (.int .i32 0), (.int .i32 0), (.int .u8 0), (.int .u8 0), (.int .u8 0), (.slice none 0 0), (.int .u16 0), (.int .u16 0)], .agg #[(.int .u64 0), (.int .u64 0), (.int .i32 0), (.int .i32 0), (.int .i32 0), (.int .i32 0), (.int .u8 0), (.int .u8 0), (.int .u8 0), (.int .i32 0), (.int .i32 0), (.int .i32 0), (.int .i32 0), (.int .u8 0), (.int .u8 0), (.int .u8 0), (.slice none 0 0), (.int .u16 0), (.int .u16 0)], .int .u16 0] rfl (by kernel_rfl) (by kernel_rfl) (by kernel_rfl)
      (OpenSpec.preRow_of_cond 8 hx (by kernel_rfl) (fun k hk => by cases hk) (by kernel_rfl) (stateBack_laid_met os))) ?_
  intro W base args ds gs before hval0 hW hcnd hk0 hsz0 hL _ _
  have hG := laid_cells hL
  have hval : ∀ (j : Nat) t v, Tryd.f5.params[j]? = some t → args[j]? = some v → Value.okWide Tryd.prog W .any base t v := hval0
  have hW' := hW
  obtain ⟨p, q, hA0, hV, rfl, hfz, hnd⟩ := hW
  have hA : DataW.TrodAll enc Tryd.prog W 0 (fun _ => true) true Tryd.f5.params.toList args.toList ds p := hA0
  obtain ⟨rfl, rfl⟩ := trodVars_none hV
  have hsz : ∀ x ∈ DataW.weightsEach Tryd.prog Tryd.f5.params.toList ds, x ≤ maxB := by
    have h1 : (DataW.weightsEach Tryd.prog (Tryd.f5.params.toList ++ []) (ds ++ [])).all (· ≤ reachBytes) = true := hsz0
    simp only [List.append_nil] at h1
    intro x hx; have h2 := List.all_eq_true.1 h1 x hx; simp only [decide_eq_true_eq] at h2; exact h2
  rw [Tryd.params5] at hA hval hsz
  have hR := rdw_all tt_ok ctt_ok (closed_of tt_closed) (fun _ => rfl) 8 hA hsz
  have hback := fun (W2 : World) (hb : Below W.heap.size W W2) => trodAll_below (by kernel_rfl : laidOutB Tryd.prog = true) hb (by kernel_rfl) hA
  obtain ⟨v0, vs0, d0, ds0, p0, q0, hargs, rfl, rfl, h0, r0⟩ := trodAll_cons hA
  obtain ⟨v1, vs1, d1, ds1, p1, q1, rfl, rfl, rfl, h1, r1⟩ := trodAll_cons r0
  obtain ⟨v2, vs2, d2, ds2, p2, q2, rfl, rfl, rfl, h2, r2⟩ := trodAll_cons r1
  obtain ⟨rfl, rfl, rfl⟩ := trodAll_nil r2
  obtain rfl : args = #[v0, v1, v2] := by cases args; simp_all
  have R0 := hR 0 30 v0 rfl rfl
  have e0 := val_agg tt_ok (t := 30) rfl rfl (hval 0 30 v0 rfl rfl)
  generalize v0.cells.toList = c0 at e0 R0
  subst e0
  have R1 := hR 1 30 v1 rfl rfl
  have e1 := val_agg tt_ok (t := 30) rfl rfl (hval 1 30 v1 rfl rfl)
  generalize v1.cells.toList = c1 at e1 R1
  subst e1
  have R2 := hR 2 27 v2 rfl rfl
  have e2 := val_one tt_ok (t := 27) rfl (by intro h; cases h) rfl (hval 2 27 v2 rfl rfl)
  rw [e2] at R2
  clear hval hval0 hsz hsz0 hR hA0
  refine (stateBack_walk W hG c0 c1 v2 R0 R1 R2).mono fun e W2 ⟨he, hI⟩ => ?_
  subst he
  exact ⟨_, rfl, _, _, _, [], _, [], hW', trodAll_mk1 (shut_bool Tryd.underlying4 _), hback _ (below_of_inv hI), rfl, (below_of_inv hI).frame _, fun h => by cases h⟩

theorem stateBack_said : Rows.StateBackSaid :=
  OpenClaim.holds_of_cond 5 Tryd.f5 rfl rfl rfl rfl rfl rfl rfl ⟨rfl, rfl, rfl, rfl, rfl⟩ rfl rfl rfl rfl rfl (by kernel_rfl) Tryd.func5 (by kernel_rfl)
    (of_decide_eq_true (by kernel_rfl)) (by unfold Func.isWrapper; first | (rw [if_pos (by decide +kernel)]; kernel_rfl) | (rw [if_neg (by decide +kernel)]; exact ⟨rfl, rfl⟩))
    (fun os started H enc _ F => by rw [OpenClaim.pre_eq_preRow]; exact stateBack_lifted os started H enc F)

theorem stateBack_plain (f : FuncId) (fn : Func) (hf : Tryd.pinned.checked.prog.funcNamed "hindcast/hindcastlaw08.StateBack" = some f) (hfn : Tryd.pinned.checked.prog.funcs[f]? = some fn) :
    false = Tryd.pinned.checked.prog.looks [] ∧ ∀ (j : Nat) t, fn.params[j]? = some t → Tryd.pinned.checked.prog.wantsStandIn t = false := by
  obtain rfl : f = 5 := Option.some.inj ((show Tryd.prog.funcNamed "hindcast/hindcastlaw08.StateBack" = some 5 by kernel_rfl).symm.trans hf) |>.symm
  obtain rfl : fn = Tryd.f5 := (Option.some.inj (Tryd.func5.symm.trans hfn)).symm
  refine ⟨by kernel_rfl, fun j t ht => ?_⟩
  rw [Tryd.params5] at ht
  have hm : t ∈ [30, 30, 27] := by simpa using Array.mem_of_getElem? ht
  have hall : ([30, 30, 27].all fun u => !Tryd.prog.wantsStandIn u) = true := by kernel_rfl
  exact (show Tryd.prog.wantsStandIn t = false by simpa using List.all_eq_true.1 hall t hm)

theorem stateBack_holds : Rows.StateBackCardSaid :=
  Claim7.holds_tied_plain_at .later [] _ _ _ _ stateBack_said (fun _ h => by cases h) (by kernel_rfl) (fun _ h => by cases h) stateBack_row_tie rfl ⟨rfl, rfl⟩ (by kernel_rfl) rfl stateBack_plain (by kernel_rfl)

end Go.Proofs.YtekplmhmppdpcaaDoor
