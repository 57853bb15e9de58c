/-
  What a frame makes of a state: the program's step is the definition in plain Lean.
-/
import Derived.Test.YtkdbpenjkcjimaaGreatDoorStepPure
namespace Go.Proofs.YtkdbpenjkcjimaaGreatDoor
open Go Go.Proofs.YtkdbpenjkcjimaaGreatDoor.Eng
set_option linter.unusedSimpArgs false
set_option linter.unusedVariables false
set_option maxHeartbeats 1000000

variable {F : Nat}

theorem cond_beq {β : Type} (a b : Int) (x y : β) : cond (a == b) x y = if a = b then x else y := by
  by_cases h : a = b
  · rw [beq_iff_eq.2 h, if_pos h]; rfl
  · rw [beq_eq_false_iff_ne.2 h, if_neg h]; rfl
theorem cond_dec {β : Type} (p : Prop) [Decidable p] (x y : β) : cond (decide p) x y = if p then x else y := by
  by_cases h : p
  · rw [decide_eq_true h, if_pos h]; rfl
  · rw [decide_eq_false h, if_neg h]; rfl

theorem way_of (i a b : Int) : m_input_way F i a b = some (wayv i a b) := by
  simp only [m_input_way, cond_beq, wayv]
  repeat' split
  all_goals rfl
theorem dir_of (i : Int) : m_input_Dir F i = some (dxv i, dyv i) := by
  simp only [m_input_Dir, way_of, Option.bind_some]
  rfl
theorem turn_of (f dx dy : Int) : m_step_turn F f dx dy = some (turnv f dx dy) := by
  simp only [m_step_turn, cond_dec, turnv]
  repeat' split
  all_goals rfl

theorem speed_of {v d : Int} {b : Bool} (h : -1024 ≤ v ∧ v ≤ 1024) (hd : d = -1 ∨ d = 0 ∨ d = 1) : m_step_steer_1 F v d b = some (speedv v d b) := by
  have hs := slow_in h
  have hg := goS_in h hd
  have w1 : IntKind.wrap .i32 (64 * d) = 64 * d := wr_i32 ⟨by omega, by omega⟩
  have w2 : IntKind.wrap .i32 (v + 64 * d) = v + 64 * d := wr_i32 ⟨by omega, by omega⟩
  have w3 : IntKind.wrap .i32 (Int.tdiv v 8) = Int.tdiv v 8 := wr_i32 ⟨by omega, by omega⟩
  have w4 : IntKind.wrap .i32 (v - Int.tdiv v 8) = slow v := wr_i32 (x := slow v) ⟨by omega, by omega⟩
  have w5 : IntKind.wrap .i32 (goS v d * 2) = goS v d * 2 := wr_i32 ⟨by omega, by omega⟩
  have hin : (cond (d != 0) (some (v + 64 * d)) (Option.bind (cond (decide (-8 < slow v)) (some (decide (slow v < 8))) (some false)) fun v21 => cond v21 (some 0) (some (slow v)))) = some (goS v d) := by
    unfold goS
    by_cases h0 : d = 0
    · rw [h0]
      simp only [show ((0 : Int) != 0) = false from rfl, cond_false, and_some, Option.bind_some, ne_eq, not_true_eq_false, if_false]
      by_cases h8 : -8 < slow v ∧ slow v < 8
      · rw [if_pos h8, decide_eq_true h8.1, decide_eq_true h8.2]; rfl
      · rw [if_neg h8]
        have : (decide (-8 < slow v) && decide (slow v < 8)) = false := by
          rw [Bool.and_eq_false_iff, decide_eq_false_iff_not, decide_eq_false_iff_not]; omega
        rw [this]; rfl
    · rw [bne_iff_ne.2 h0, cond_true, if_pos h0]
  simp only [m_step_steer_1, w1, w2, w3, w4]
  rw [hin]
  simp only [Option.bind_some, w5, speedv, dblS]
  cases b <;> rfl

theorem steer_of {p : T_api_Player} {i : Int} (h : PG p) : m_step_steer F p i = some (steerv p i) := by
  have h6 := h.C
  have wc : IntKind.wrap .u8 (p.Cool - min p.Cool 1) = coolv p.Cool := wr_u8 (x := coolv p.Cool) ⟨by unfold coolv; omega, by unfold coolv; omega⟩
  have hd : (cond (dashv i) (some (coolv p.Cool == 0)) (some false)) = some (dashP p i) := and_some _ _
  have hD : m_input_Dash F i = some (dashv i) := rfl
  simp only [m_step_steer, dir_of, turn_of, hD, Option.bind_some, wc, hd, speed_of h.VX (wayv_in i 1 2), speed_of h.VY (wayv_in i 4 8), dxv, dyv]
  unfold steerv
  cases dashP p i <;> rfl

theorem shoot_of {p : T_api_Player} {o : Int} (h : PG p) : m_step_shoot F p o = some (shootv p o) := by
  have h1 := h.X; have h2 := h.Y
  have w1 : IntKind.wrap .i32 (p.X + 1792) = p.X + 1792 := wr_i32 ⟨by omega, by omega⟩
  have w2 : IntKind.wrap .i32 (p.Y + 1792) = p.Y + 1792 := wr_i32 ⟨by omega, by omega⟩
  simp only [m_step_shoot, w1, w2, cond_beq, shootv, shotV]
  by_cases a0 : p.Face = 0
  · simp [a0]
  · by_cases a1 : p.Face = 1
    · simp [a1]
    · by_cases a2 : p.Face = 2
      · simp [a2]
      · simp [a0, a1, a2]

theorem fire_cond {p : T_api_Player} {i : Int} {l : List T_api_Shot} {β : Type} (k : Bool → Option β) :
    (Option.bind (m_input_Fire F i) fun v53 => (Option.bind (cond v53 (some ((p.Cool == (0 : Int)))) (some (false))) fun v60 => (Option.bind (cond v60 (some ((decide ((l.length : Int) < (8 : Int))))) (some (false))) k))) = k (fireP p i l.length) := by
  have hF : m_input_Fire F i = some (firev i) := rfl
  have h8 : decide ((l.length : Int) < 8) = decide (l.length < 8) := by rw [decide_eq_decide]; omega
  simp only [hF, Option.bind_some, and_some, h8]
  rfl

theorem fires_of {p q : T_api_Player} {i j : Int} {l : List T_api_Shot} (hp : PG p) (hq : PG q) (hl : l.length ≤ 8) (hF : 10 ≤ F) :
    m_step_Step_L33 F (i, j) F 0 (p, q) l = some (((fireOne p i 0 l).1, (fireOne q j 1 (fireOne p i 0 l).2).1), (fireOne q j 1 (fireOne p i 0 l).2).2) := by
  obtain ⟨m, hm⟩ : ∃ m, F = m + 3 := ⟨F - 3, by omega⟩
  have w1 : IntKind.wrap .i64 ((0 : Int) + 1) = 1 := wr_i64 ⟨by omega, by omega⟩
  have w2 : IntKind.wrap .i64 ((1 : Int) + 1) = 2 := wr_i64 ⟨by omega, by omega⟩
  have u0 : IntKind.wrap .u8 (0 : Int) = 0 := wr_u8 ⟨by omega, by omega⟩
  have u1 : IntKind.wrap .u8 (1 : Int) = 1 := wr_u8 ⟨by omega, by omega⟩
  have e : ∀ x a b, m_step_Step_L33 F (i, j) F x a b = m_step_Step_L33 F (i, j) (m + 3) x a b := fun x a b => by rw [← hm]
  have two : ∀ (p' : T_api_Player) (l' : List T_api_Shot), l'.length ≤ 9 → m_step_Step_L33 F (i, j) (m + 2) 1 (p', q) l' = some ((p', (fireOne q j 1 l').1), (fireOne q j 1 l').2) := by
    intro p' l' hl'
    rw [m_step_Step_L33.eq_2]
    simp only [show decide ((1 : Int) < 2) = true from rfl, show ((1 : Int) == 0) = false from rfl, show ((1 : Int) == 1) = true from rfl, cond_true, cond_false, w2, u1, shoot_of hq, Option.bind_some]
    rw [fire_cond (p := q) (fun v66 => cond v66 _ _)]
    unfold fireOne
    cases fireP q j l'.length
    · simp only [cond_false, m_step_Step_L33.eq_2, show decide ((2 : Int) < 2) = false from rfl]
      rfl
    · simp only [cond_true]
      rw [appI_of (by simp; omega)]
      simp only [Option.bind_some, m_step_Step_L33.eq_2, show decide ((2 : Int) < 2) = false from rfl, cond_false]
      rfl
  rw [e, m_step_Step_L33.eq_2]
  simp only [show decide ((0 : Int) < 2) = true from rfl, show ((0 : Int) == 0) = true from rfl, cond_true, w1, u0, shoot_of hp, Option.bind_some]
  rw [fire_cond (p := p) (fun v66 => cond v66 _ _)]
  unfold fireOne
  cases hc : fireP p i l.length
  · simp only [cond_false, Bool.false_eq_true, if_false]
    exact two p l (by omega)
  · simp only [cond_true, if_true]
    rw [appI_of (by simp; omega)]
    simp only [Option.bind_some]
    exact two (fired p) (l ++ [shootv p 0]) (by simp; omega)

theorem move_of {x v hi : Int} (h : 0 ≤ x ∧ x ≤ hi) (hv : -1024 ≤ v ∧ v ≤ 1024) (hh : hi ≤ 100000) : m_geom_Move F x v 0 hi = some (movev x v hi) := by
  have w1 : IntKind.wrap .i64 x = x := wr_i64 ⟨by omega, by omega⟩
  have w2 : IntKind.wrap .i64 v = v := wr_i64 ⟨by omega, by omega⟩
  have w3 : IntKind.wrap .i64 (x + v) = x + v := wr_i64 ⟨by omega, by omega⟩
  have w4 : IntKind.wrap .i64 hi = hi := wr_i64 ⟨by omega, by omega⟩
  have w5 : IntKind.wrap .i64 (0 : Int) = 0 := wr_i64 ⟨by omega, by omega⟩
  have w6 : IntKind.wrap .i32 (x + v) = x + v := wr_i32 ⟨by omega, by omega⟩
  simp only [m_geom_Move, w1, w2, w3, w4, w5, w6, or_some, Option.bind_some, decide_eq_false (show ¬ hi < 0 by omega), Bool.false_or, cond_dec, movev]
  repeat' split
  all_goals rfl
theorem moved_of {p : T_api_Player} (h : PG p) : m_step_moved F p = some (movedv p) := by
  simp only [m_step_moved, move_of h.X h.VX (by omega), move_of h.Y h.VY (by omega), Option.bind_some]
  rfl

theorem over_of {x y w h x' y' w' h' : Int} (a1 : -100000 ≤ x ∧ x ≤ 100000) (a2 : -100000 ≤ y ∧ y ≤ 100000) (a3 : 0 ≤ w ∧ w ≤ 100000) (a4 : 0 ≤ h ∧ h ≤ 100000)
    (b1 : -100000 ≤ x' ∧ x' ≤ 100000) (b2 : -100000 ≤ y' ∧ y' ≤ 100000) (b3 : 0 ≤ w' ∧ w' ≤ 100000) (b4 : 0 ≤ h' ∧ h' ≤ 100000) : m_geom_Over F ⟨x, y, w, h⟩ ⟨x', y', w', h'⟩ = some (overB x y w h x' y' w' h') := by
  have g : ∀ u v : Int, -100000 ≤ u ∧ u ≤ 100000 → 0 ≤ v ∧ v ≤ 100000 → m_geom_of F u v = some ⟨u, u + v⟩ := by
    intro u v hu hv
    have w1 : IntKind.wrap .i64 u = u := wr_i64 ⟨by omega, by omega⟩
    have w2 : max (0 : Int) v = v := by omega
    have w3 : IntKind.wrap .i64 v = v := wr_i64 ⟨by omega, by omega⟩
    have w4 : IntKind.wrap .i64 (u + v) = u + v := wr_i64 ⟨by omega, by omega⟩
    simp only [m_geom_of, w1, w2, w3, w4]
  simp only [m_geom_Over, m_geom_both_f2_geom_row_over, m_geom_rows, g x w a1 a3, g y h a2 a4, g x' w' b1 b3, g y' h' b2 b4, Option.bind_some, m_geom_row_over, and_some]
  rfl
theorem over_pp {p q : T_api_Player} (hp : PG p) (hq : PG q) : m_geom_Over F ⟨p.X, p.Y, 4096, 4096⟩ ⟨q.X, q.Y, 4096, 4096⟩ = some (overP p q) := by
  have h1 := hp.X; have h2 := hp.Y; have h3 := hq.X; have h4 := hq.Y
  exact over_of (by omega) (by omega) (by omega) (by omega) (by omega) (by omega) (by omega) (by omega)
theorem inside_of {x y : Int} (a1 : -100000 ≤ x ∧ x ≤ 100000) (a2 : -100000 ≤ y ∧ y ≤ 100000) : m_geom_Inside F ⟨x, y, 512, 512⟩ ⟨0, 0, 65536, 32768⟩ = some (decide (0 ≤ x ∧ x + 512 ≤ 65536 ∧ 0 ≤ y ∧ y + 512 ≤ 32768)) := by
  have g : ∀ u v : Int, -100000 ≤ u ∧ u ≤ 100000 → 0 ≤ v ∧ v ≤ 100000 → m_geom_of F u v = some ⟨u, u + v⟩ := by
    intro u v hu hv
    have w1 : IntKind.wrap .i64 u = u := wr_i64 ⟨by omega, by omega⟩
    have w2 : max (0 : Int) v = v := by omega
    have w3 : IntKind.wrap .i64 v = v := wr_i64 ⟨by omega, by omega⟩
    have w4 : IntKind.wrap .i64 (u + v) = u + v := wr_i64 ⟨by omega, by omega⟩
    simp only [m_geom_of, w1, w2, w3, w4]
  simp only [m_geom_Inside, m_geom_both_f2_geom_row_inside, m_geom_rows, g x 512 a1 (by omega), g y 512 a2 (by omega), g 0 65536 (by omega) (by omega), g 0 32768 (by omega) (by omega), Option.bind_some, m_geom_row_inside, and_some]
  rw [Option.some.injEq, Bool.eq_iff_iff]
  simp only [Bool.and_eq_true, decide_eq_true_eq]
  omega

theorem fly_loop {s : T_api_State} (hs : ∀ x ∈ s.Shots, SG x) (h8 : s.Shots.length ≤ 100) : ∀ (m i : Nat) (c : FlySt), s.Shots.length - i < m → i ≤ s.Shots.length → FG c i →
    m_step_fly_L8 F s m c.1 (i : Int) c.2.1 c.2.2 = some ((s.Shots.drop i).foldl flyOne c)
  | 0, i, c, hm, _, _ => by omega
  | m + 1, i, c, hm, hi, hc => by
    rw [m_step_fly_L8.eq_2]
    by_cases h1 : i < s.Shots.length
    · have hx : s.Shots[i]? = some s.Shots[i] := List.getElem?_eq_getElem h1
      have hg := hs _ (List.mem_of_getElem? hx)
      have hw : IntKind.wrap .i64 ((i : Int) + 1) = ((i + 1 : Nat) : Int) := by rw [wr_i64 ⟨by omega, by omega⟩]; omega
      have ih := fly_loop hs h8 m (i + 1) (flyOne c s.Shots[i]) (by omega) (by omega) (fly_fg hc hg)
      have hd : (s.Shots.drop i).foldl flyOne c = (s.Shots.drop (i + 1)).foldl flyOne (flyOne c s.Shots[i]) := by rw [List.drop_eq_getElem_cons h1, List.foldl_cons]
      rw [hd, ← ih]
      clear ih hd
      simp only [decide_eq_true (show (i : Int) < (s.Shots.length : Int) by omega), cond_true, getI_nat, hx, Option.bind_some, hw, m_step_box]
      generalize s.Shots[i] = x at *
      have g1 := hg.X; have g2 := hg.Y; have g3 := hg.VX; have g4 := hg.VY; have g6 := hg.L
      have p1 := hc.P.X; have p2 := hc.P.Y; have q1 := hc.Q.X; have q2 := hc.Q.Y
      have p5 := hc.P.H; have q5 := hc.Q.H
      have s1 := hc.S1; have s2 := hc.S2
      have hN := hc.N
      obtain ⟨l, ⟨p, q⟩, ⟨a, b⟩⟩ := c
      simp only at p1 p2 q1 q2 p5 q5 s1 s2 hN ⊢
      have wx : IntKind.wrap .i32 (x.X + x.VX) = x.X + x.VX := wr_i32 ⟨by omega, by omega⟩
      have wy : IntKind.wrap .i32 (x.Y + x.VY) = x.Y + x.VY := wr_i32 ⟨by omega, by omega⟩
      have wl : IntKind.wrap .u8 (x.Life - 1) = x.Life - 1 := wr_u8 ⟨by omega, by omega⟩
      have wp : IntKind.wrap .u8 (p.Health - min p.Health 10) = p.Health - min p.Health 10 := wr_u8 ⟨by omega, by omega⟩
      have wq : IntKind.wrap .u8 (q.Health - min q.Health 10) = q.Health - min q.Health 10 := wr_u8 ⟨by omega, by omega⟩
      have wa : IntKind.wrap .u16 (min a 65534 + 1) = scored a := wr_u16 (x := scored a) ⟨by unfold scored; omega, by unfold scored; omega⟩
      have wb : IntKind.wrap .u16 (min b 65534 + 1) = scored b := wr_u16 (x := scored b) ⟨by unfold scored; omega, by unfold scored; omega⟩
      have hI : m_geom_Inside F (T_api_Box.mk (x.X + x.VX) (x.Y + x.VY) 512 512) (T_api_Box.mk 0 0 65536 32768) = some (insS (nextSh x)) := inside_of (by omega) (by omega)
      have hP : m_geom_Over F (T_api_Box.mk (x.X + x.VX) (x.Y + x.VY) 512 512) (T_api_Box.mk p.X p.Y 4096 4096) = some (hitS (nextSh x) p) := over_of (by omega) (by omega) (by omega) (by omega) (by omega) (by omega) (by omega) (by omega)
      have hQ : m_geom_Over F (T_api_Box.mk (x.X + x.VX) (x.Y + x.VY) 512 512) (T_api_Box.mk q.X q.Y 4096 4096) = some (hitS (nextSh x) q) := over_of (by omega) (by omega) (by omega) (by omega) (by omega) (by omega) (by omega) (by omega)
      have hap : appI l [nextSh x] = some (l ++ [nextSh x]) := appI_of (by simp; omega)
      simp only [wx, wy, wl, wp, wq, wa, wb, hI, hP, hQ, Option.bind_some]
      have hns : T_api_Shot.mk (x.X + x.VX) (x.Y + x.VY) x.VX x.VY x.Owner (x.Life - 1) = nextSh x := rfl
      rw [hns, hap]
      rcases hg.O with ho | ho
      · have e0 : IntKind.wrap .u8 ((1 : Int) - x.Owner) = 1 := by rw [ho]; exact wr_u8 ⟨by omega, by omega⟩
        simp only [e0, ho, show ((1 : Int) == 0) = false from rfl, show ((1 : Int) == 1) = true from rfl, show ((0 : Int) == 0) = true from rfl, cond_true, cond_false]
        unfold flyOne
        cases insS (nextSh x)
        · rfl
        · simp only [Bool.not_true, cond_false, if_true, ho]
          cases hitS (nextSh x) q
          · simp only [cond_false, cond_dec, Bool.false_eq_true, if_false, Option.bind_some]
            split <;> rfl
          · rfl
      · have e0 : IntKind.wrap .u8 ((1 : Int) - x.Owner) = 0 := by rw [ho]; exact wr_u8 ⟨by omega, by omega⟩
        simp only [e0, ho, show ((1 : Int) == 0) = false from rfl, show ((1 : Int) == 1) = true from rfl, show ((0 : Int) == 0) = true from rfl, cond_true, cond_false]
        unfold flyOne
        cases insS (nextSh x)
        · rfl
        · simp only [Bool.not_true, cond_false, if_true, ho, show ¬ (1 : Int) = 0 by omega, if_false]
          cases hitS (nextSh x) p
          · simp only [cond_false, cond_dec, Bool.false_eq_true, if_false, Option.bind_some]
            split <;> rfl
          · rfl
    · simp only [decide_eq_false (show ¬ (i : Int) < (s.Shots.length : Int) by omega), cond_false]
      rw [List.drop_of_length_le (by omega)]
      rfl

theorem p32 : (2 : Int) ^ (min 32 (IntKind.bits .u64)) = 4294967296 := by decide
theorem below_raw {d n : Int} (hn : 1 ≤ n ∧ n ≤ 100000) : IntKind.wrap .i64 ((IntKind.wrap .u64 (mixN (nextS d) / 4294967296 * n)) / 4294967296) = belowN d n := by
  have hm := mixN_in (nextS d)
  have hb := belowN_in (d := d) hn
  unfold belowN at hb ⊢
  generalize mixN (nextS d) = x at *
  have h1 : 0 ≤ x / 4294967296 ∧ x / 4294967296 ≤ 4294967295 := by omega
  generalize x / 4294967296 = y at *
  have h2 : 0 ≤ y * n := Int.mul_nonneg h1.1 (by omega)
  have h3 : y * n ≤ 4294967295 * n := Int.mul_le_mul_of_nonneg_right h1.2 (by omega)
  generalize y * n = z at *
  rw [wr_u64 ⟨by omega, by omega⟩, wr_i64 ⟨by omega, by omega⟩]
theorem below_of {d n : Int} (hn : 1 ≤ n ∧ n ≤ 100000) : m_rng_Source_Below F ⟨d⟩ n = some (belowN d n, ⟨nextS d⟩) := by
  have w1 : IntKind.wrap .u64 ((1 : Int) * 11400714819323198485) = 11400714819323198485 := wr_u64 (x := 11400714819323198485) ⟨by omega, by omega⟩
  have w2 : min n 2147483648 = n := by omega
  have w3 : IntKind.wrap .u64 n = n := wr_u64 ⟨by omega, by omega⟩
  have hN : IntKind.wrap .u64 (d + 11400714819323198485) = nextS d := rfl
  simp only [m_rng_Source_Below, m_rng_Source_Next, m_rng_Source_Skip, w1, hN, mix_of, Option.bind_some, p32, w2, w3, below_raw hn]
  rw [decide_eq_false (by omega), cond_false]

theorem there_over {p q : T_api_Player} {d : Int} (hp : PG p) (hq : PG q) : m_geom_Over F ⟨belowN d 61441, belowN (nextS d) 28673, 4096, 4096⟩ ⟨q.X, q.Y, 4096, 4096⟩ = some (overP (there p d) q) := by
  have h := over_pp (F := F) (p := there p d) (q := q) (there_pg hp) hq
  rw [show (there p d).X = belowN d 61441 from rfl, show (there p d).Y = belowN (nextS d) 28673 from rfl] at h
  exact h

theorem revive0_of {s : T_api_State} (h1 : PG s.Players.1) (h2 : PG s.Players.2) : m_step_revive F s 0 = some ⟨s.Frame, nextS (nextS s.Seed), (backv s.Players.1 s.Players.2 s.Seed, s.Players.2), s.Shots, s.Score⟩ := by
  have hb := there_pg (d := s.Seed) h1
  have b1 := hb.X; have b2 := hb.Y
  have b3 : IntKind.wrap .i32 (belowN s.Seed 61441) = belowN s.Seed 61441 := wr_i32 ⟨by simp only [there] at b1; omega, by simp only [there] at b1; omega⟩
  have b4 : IntKind.wrap .i32 (belowN (nextS s.Seed) 28673) = belowN (nextS s.Seed) 28673 := wr_i32 ⟨by simp only [there] at b2; omega, by simp only [there] at b2; omega⟩
  have w0 : IntKind.wrap .i64 ((1 : Int) - 0) = 1 := wr_i64 ⟨by omega, by omega⟩
  have ho : m_geom_Over F (T_api_Box.mk (belowN s.Seed 61441) (belowN (nextS s.Seed) 28673) 4096 4096) (T_api_Box.mk s.Players.2.X s.Players.2.Y 4096 4096) = some (overP (there s.Players.1 s.Seed) s.Players.2) := there_over h1 h2
  simp only [m_step_revive, show ((0 : Int) == 0) = true from rfl, cond_true, m_step_stopped, Option.bind_some, below_of (d := s.Seed) (n := 61441) (by omega), below_of (d := nextS s.Seed) (n := 28673) (by omega), m_step_box, b3, b4, w0, show ((1 : Int) == 0) = false from rfl, show ((1 : Int) == 1) = true from rfl, cond_false, ho]
  unfold backv
  cases overP (there s.Players.1 s.Seed) s.Players.2 <;> rfl
theorem revive1_of {s : T_api_State} (h1 : PG s.Players.1) (h2 : PG s.Players.2) : m_step_revive F s 1 = some ⟨s.Frame, nextS (nextS s.Seed), (s.Players.1, backv s.Players.2 s.Players.1 s.Seed), s.Shots, s.Score⟩ := by
  have hb := there_pg (d := s.Seed) h2
  have b1 := hb.X; have b2 := hb.Y
  have b3 : IntKind.wrap .i32 (belowN s.Seed 61441) = belowN s.Seed 61441 := wr_i32 ⟨by simp only [there] at b1; omega, by simp only [there] at b1; omega⟩
  have b4 : IntKind.wrap .i32 (belowN (nextS s.Seed) 28673) = belowN (nextS s.Seed) 28673 := wr_i32 ⟨by simp only [there] at b2; omega, by simp only [there] at b2; omega⟩
  have w0 : IntKind.wrap .i64 ((1 : Int) - 1) = 0 := wr_i64 ⟨by omega, by omega⟩
  have ho : m_geom_Over F (T_api_Box.mk (belowN s.Seed 61441) (belowN (nextS s.Seed) 28673) 4096 4096) (T_api_Box.mk s.Players.1.X s.Players.1.Y 4096 4096) = some (overP (there s.Players.2 s.Seed) s.Players.1) := there_over h2 h1
  simp only [m_step_revive, show ((1 : Int) == 0) = false from rfl, show ((1 : Int) == 1) = true from rfl, show ((0 : Int) == 0) = true from rfl, cond_true, cond_false, m_step_stopped, Option.bind_some, below_of (d := s.Seed) (n := 61441) (by omega), below_of (d := nextS s.Seed) (n := 28673) (by omega), m_step_box, b3, b4, w0, ho]
  unfold backv
  cases overP (there s.Players.2 s.Seed) s.Players.1 <;> rfl

theorem revs_of {f d : Int} {r : T_api_Player × T_api_Player} {l : List T_api_Shot} {sc : Int × Int} (h1 : PG r.1) (h2 : PG r.2) (hF : 10 ≤ F) :
    m_step_Step_L70 F F 0 f d r l sc = some (f, (revd d r).1, (revd d r).2, l, sc) := by
  obtain ⟨m, hm⟩ : ∃ m, F = m + 3 := ⟨F - 3, by omega⟩
  have w1 : IntKind.wrap .i64 ((0 : Int) + 1) = 1 := wr_i64 ⟨by omega, by omega⟩
  have w2 : IntKind.wrap .i64 ((1 : Int) + 1) = 2 := wr_i64 ⟨by omega, by omega⟩
  have e : m_step_Step_L70 F F 0 f d r l sc = m_step_Step_L70 F (m + 3) 0 f d r l sc := by rw [← hm]
  have two : ∀ (d' : Int) (r' : T_api_Player × T_api_Player), PG r'.1 → PG r'.2 → m_step_Step_L70 F (m + 2) 1 f d' r' l sc = some (f, (rev1 d' r').1, (rev1 d' r').2, l, sc) := by
    intro d' r' g1 g2
    have hr := revive1_of (F := F) (s := ⟨f, d', r', l, sc⟩) g1 g2
    rw [m_step_Step_L70.eq_2]
    simp only [show decide ((1 : Int) < 2) = true from rfl, show ((1 : Int) == 0) = false from rfl, show ((1 : Int) == 1) = true from rfl, cond_true, cond_false, w2, hr, Option.bind_some]
    unfold rev1
    rw [cond_beq]
    split
    · simp only [m_step_Step_L70.eq_2, show decide ((2 : Int) < 2) = false from rfl, cond_false]
    · simp only [m_step_Step_L70.eq_2, show decide ((2 : Int) < 2) = false from rfl, cond_false]
  have hr := revive0_of (F := F) (s := ⟨f, d, r, l, sc⟩) h1 h2
  rw [e, m_step_Step_L70.eq_2]
  simp only [show decide ((0 : Int) < 2) = true from rfl, show ((0 : Int) == 0) = true from rfl, cond_true, w1, hr, Option.bind_some]
  unfold revd rev0
  rw [cond_beq]
  split
  · exact two _ _ (back_pg h1).1 h2
  · exact two _ _ h1 h2

theorem steers_of {p q : T_api_Player} {i j : Int} (hp : PG p) (hq : PG q) (hF : 10 ≤ F) : m_step_Step_L16 F (i, j) F 0 (p, q) = some (steerv p i, steerv q j) := by
  obtain ⟨m, hm⟩ : ∃ m, F = m + 3 := ⟨F - 3, by omega⟩
  have w1 : IntKind.wrap .i64 ((0 : Int) + 1) = 1 := wr_i64 ⟨by omega, by omega⟩
  have w2 : IntKind.wrap .i64 ((1 : Int) + 1) = 2 := wr_i64 ⟨by omega, by omega⟩
  have e : ∀ a, m_step_Step_L16 F (i, j) F 0 a = m_step_Step_L16 F (i, j) (m + 3) 0 a := fun a => by rw [← hm]
  rw [e]
  simp only [m_step_Step_L16, show decide ((0 : Int) < 2) = true from rfl, show decide ((1 : Int) < 2) = true from rfl, show decide ((2 : Int) < 2) = false from rfl,
    show ((0 : Int) == 0) = true from rfl, show ((1 : Int) == 0) = false from rfl, show ((1 : Int) == 1) = true from rfl, cond_true, cond_false, w1, w2, steer_of hp, steer_of hq, Option.bind_some]

/-- The program's step. -/
theorem step_of {s : T_api_State} {i j : Int} (h : StOk s) (hl : s.Shots.length ≤ 100) (hF : 200 ≤ F) : m_step_Step F s (i, j) = some (stepv s i j) := by
  have c1 := copy_of (F := F) (s := s) (by omega)
  have c2 := check_of (F := F) h (by omega) (by omega) (by omega)
  simp only [m_step_Step, c1, c2, Option.bind_some, m_input_Legal, or_some]
  by_cases hg : stGood s = true
  · rw [hg]
    simp only [if_true, show ((0 : Int) != 0) = false from rfl, Bool.false_or]
    by_cases hij : i < 64 ∧ j < 64
    · rw [decide_eq_true hij.1, decide_eq_true hij.2]
      simp only [Bool.not_true, Bool.or_false, cond_false]
      unfold stepv
      rw [if_pos ⟨hg, hij⟩]
      obtain ⟨⟨p1, _⟩, ⟨p2, _⟩, hs, h8⟩ := st_parts h hg
      have st1 := steer_pg (i := i) p1
      have st2 := steer_pg (i := j) p2
      obtain ⟨a1, a2, a3, a4, a5⟩ := fireOne_ok (i := i) (o := 0) st1 (.inl rfl) hs h8
      obtain ⟨b1, b2, b3, b4, b5⟩ := fireOne_ok (i := j) (o := 1) st2 (.inr rfl) a3 a4
      obtain ⟨t1, t2⟩ := three_pg a1 b1
      obtain ⟨hf, _⟩ := flown_ok (i := i) (j := j) h hg
      have e1 : m_step_Step_L16 F (i, j) F 0 s.Players = some (steerv s.Players.1 i, steerv s.Players.2 j) := steers_of p1 p2 (by omega)
      rw [e1]
      simp only [Option.bind_some]
      rw [fires_of st1 st2 h8 (by omega)]
      simp only [Option.bind_some, moved_of a1, moved_of b1, m_step_box, over_pp (moved_pg a1) (moved_pg b1), m_step_stopped]
      have e3 : (cond (overP (movedv (fireOne (steerv s.Players.1 i) i 0 s.Shots).1) (movedv (fireOne (steerv s.Players.2 j) j 1 (fireOne (steerv s.Players.1 i) i 0 s.Shots).2).1))
          (some (stopv (fireOne (steerv s.Players.1 i) i 0 s.Shots).1, stopv (fireOne (steerv s.Players.2 j) j 1 (fireOne (steerv s.Players.1 i) i 0 s.Shots).2).1))
          (some (movedv (fireOne (steerv s.Players.1 i) i 0 s.Shots).1, movedv (fireOne (steerv s.Players.2 j) j 1 (fireOne (steerv s.Players.1 i) i 0 s.Shots).2).1))) = some (threev (fireOne (steerv s.Players.1 i) i 0 s.Shots).1 (fireOne (steerv s.Players.2 j) j 1 (fireOne (steerv s.Players.1 i) i 0 s.Shots).2).1) := by
        unfold threev
        cases overP (movedv (fireOne (steerv s.Players.1 i) i 0 s.Shots).1) (movedv (fireOne (steerv s.Players.2 j) j 1 (fireOne (steerv s.Players.1 i) i 0 s.Shots).2).1) <;> rfl
      have e3' := e3
      unfold stopv at e3'
      rw [e3']
      simp only [Option.bind_some, m_step_fly]
      have e4 := fly_loop (F := F) (s := ⟨s.Frame, s.Seed, threev (fireOne (steerv s.Players.1 i) i 0 s.Shots).1 (fireOne (steerv s.Players.2 j) j 1 (fireOne (steerv s.Players.1 i) i 0 s.Shots).2).1, (fireOne (steerv s.Players.2 j) j 1 (fireOne (steerv s.Players.1 i) i 0 s.Shots).2).2, s.Score⟩) b3 (show (fireOne (steerv s.Players.2 j) j 1 (fireOne (steerv s.Players.1 i) i 0 s.Shots).2).2.length ≤ 100 by omega) F 0
        ([], threev (fireOne (steerv s.Players.1 i) i 0 s.Shots).1 (fireOne (steerv s.Players.2 j) j 1 (fireOne (steerv s.Players.1 i) i 0 s.Shots).2).1, s.Score) (show (fireOne (steerv s.Players.2 j) j 1 (fireOne (steerv s.Players.1 i) i 0 s.Shots).2).2.length - 0 < F by omega) (by omega) ⟨t1, t2, by simp, by simp, h.Sc1, h.Sc2⟩
      have e5 : m_step_fly_L8 F (T_api_State.mk s.Frame s.Seed (threev (fireOne (steerv s.Players.1 i) i 0 s.Shots).1 (fireOne (steerv s.Players.2 j) j 1 (fireOne (steerv s.Players.1 i) i 0 s.Shots).2).1) (fireOne (steerv s.Players.2 j) j 1 (fireOne (steerv s.Players.1 i) i 0 s.Shots).2).2 s.Score) F [] 0
          (threev (fireOne (steerv s.Players.1 i) i 0 s.Shots).1 (fireOne (steerv s.Players.2 j) j 1 (fireOne (steerv s.Players.1 i) i 0 s.Shots).2).1) s.Score = some (flown s i j) := e4
      rw [e5]
      simp only [Option.bind_some]
      rw [revs_of hf.P hf.Q (by omega)]
      rfl
    · have : (!decide (i < 64) || !decide (j < 64)) = true := by
        rw [Bool.or_eq_true, Bool.not_eq_true', Bool.not_eq_true', decide_eq_false_iff_not, decide_eq_false_iff_not]; omega
      rw [this]
      unfold stepv
      rw [if_neg (by intro hh; exact hij hh.2)]
      rfl
  · have hg' : stGood s = false := by cases hq : stGood s with
      | false => rfl
      | true => exact absurd hq hg
    rw [hg']
    simp only [Bool.false_eq_true, if_false, show ((4 : Int) != 0) = true from rfl, Bool.true_or, cond_true]
    unfold stepv
    rw [if_neg (by rw [hg']; intro hh; exact absurd hh.1 (by decide))]

end Go.Proofs.YtkdbpenjkcjimaaGreatDoor
