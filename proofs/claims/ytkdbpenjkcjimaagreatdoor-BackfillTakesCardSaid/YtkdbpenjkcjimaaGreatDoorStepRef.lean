/-
  What a frame makes of a state: the document's step is the definition in plain Lean.
-/
import Derived.Test.YtkdbpenjkcjimaaGreatDoorStepProg
namespace Go.Proofs.YtkdbpenjkcjimaaGreatDoor
open Go Go.Proofs.YtkdbpenjkcjimaaGreatDoor.Eng
set_option linter.unusedSimpArgs false
set_option linter.unusedVariables false
set_option maxHeartbeats 1000000

variable {F : Nat}

theorem rdir_all : ∀ k : Fin 256, m_hindcastref06_Dir 0 (k.val : Int) = some (dxv (k.val : Int), dyv (k.val : Int)) ∧ m_hindcastref06_Dash 0 (k.val : Int) = some (dashv (k.val : Int)) ∧ m_hindcastref06_Fire 0 (k.val : Int) = some (firev (k.val : Int)) := by decide +kernel
theorem rdir_of {i : Int} (h : 0 ≤ i ∧ i ≤ 255) : m_hindcastref06_Dir F i = some (dxv i, dyv i) ∧ m_hindcastref06_Dash F i = some (dashv i) ∧ m_hindcastref06_Fire F i = some (firev i) := by
  obtain ⟨n, rfl⟩ := Int.eq_ofNat_of_zero_le h.1
  exact rdir_all ⟨n, by omega⟩

theorem rspeed_of {v d : Int} {b : Bool} (h : -1024 ≤ v ∧ v ≤ 1024) (hd : d = -1 ∨ d = 0 ∨ d = 1) : m_hindcastref09_speed F v d b = some (speedv v d b) := by
  have hs := slow_in h
  have hg := goS_in h hd
  have w1 : IntKind.wrap .i32 (64 * d) = 64 * d := wr_i32 ⟨by omega, by omega⟩
  have w2 : IntKind.wrap .i32 (v + 64 * d) = v + 64 * d := wr_i32 ⟨by omega, by omega⟩
  have w3 : IntKind.wrap .i32 (Int.tdiv v 8) = Int.tdiv v 8 := wr_i32 ⟨by omega, by omega⟩
  have w4 : IntKind.wrap .i32 (v - Int.tdiv v 8) = slow v := wr_i32 (x := slow v) ⟨by omega, by omega⟩
  have w5 : IntKind.wrap .i32 (goS v d * 2) = goS v d * 2 := wr_i32 ⟨by omega, by omega⟩
  have hin : (Option.bind (cond (d != 0) (some (v + 64 * d)) (some v)) fun j6_0 => (cond (d == 0) (Option.bind (cond (decide ((-8 : Int) < (IntKind.wrap .i32 (j6_0 - (IntKind.wrap .i32 (Int.tdiv j6_0 8)))))) (some
    ((decide ((IntKind.wrap .i32 (j6_0 - (IntKind.wrap .i32 (Int.tdiv j6_0 8)))) < (8 : Int))))) (some (false))) fun v24 => (cond v24 (some (0 : Int))
    (some (IntKind.wrap .i32 (j6_0 - (IntKind.wrap .i32 (Int.tdiv j6_0 8))))))) (some j6_0))) = some (goS v d) := by
    unfold goS
    by_cases h0 : d = 0
    · rw [h0]
      simp only [show ((0 : Int) != 0) = false from rfl, show ((0 : Int) == 0) = true from rfl, cond_false, cond_true, and_some, Option.bind_some, ne_eq, not_true_eq_false, if_false, w3, w4]
      by_cases h8 : -8 < slow v ∧ slow v < 8
      · rw [if_pos h8, decide_eq_true h8.1, decide_eq_true h8.2]; rfl
      · rw [if_neg h8]
        have : (decide (-8 < slow v) && decide (slow v < 8)) = false := by
          rw [Bool.and_eq_false_iff, decide_eq_false_iff_not, decide_eq_false_iff_not]; omega
        rw [this]; rfl
    · rw [bne_iff_ne.2 h0, beq_eq_false_iff_ne.2 h0, if_pos h0]
      rfl
  have hin2 : ∀ {β : Type} (k : Int → Option β), (Option.bind (cond (d != 0) (some (v + 64 * d)) (some v)) fun j6_0 => (Option.bind (cond (d == 0) (Option.bind (cond (decide ((-8 : Int) < (IntKind.wrap .i32 (j6_0 - (IntKind.wrap .i32 (Int.tdiv j6_0 8)))))) (some
    ((decide ((IntKind.wrap .i32 (j6_0 - (IntKind.wrap .i32 (Int.tdiv j6_0 8)))) < (8 : Int))))) (some (false))) fun v24 => (cond v24 (some (0 : Int))
    (some (IntKind.wrap .i32 (j6_0 - (IntKind.wrap .i32 (Int.tdiv j6_0 8))))))) (some j6_0)) k)) = k (goS v d) := by
    intro β k
    have := congrArg (fun o => Option.bind o k) hin
    simp only [Option.bind_some, Option.bind_assoc] at this ⊢
    exact this
  simp only [m_hindcastref09_speed, w1, w2]
  rw [hin2]
  simp only [w5, speedv, dblS]
  have hcl : ∀ y : Int, (cond (decide ((1024 : Int) < y)) (some (1024 : Int)) (cond (decide (y < (-1024 : Int))) (some (-1024 : Int)) (some y))) = some (max (-1024) (min y 1024)) := by
    intro y
    by_cases y1 : 1024 < y
    · rw [decide_eq_true y1, cond_true]; congr 1; omega
    · by_cases y2 : y < -1024
      · rw [decide_eq_false y1, decide_eq_true y2, cond_false, cond_true]; congr 1; omega
      · rw [decide_eq_false y1, decide_eq_false y2, cond_false, cond_false]; congr 1; omega
  cases b
  · simp only [cond_false, Option.bind_some, hcl, Bool.false_eq_true, if_false]
  · simp only [cond_true, Option.bind_some, hcl, if_true]

theorem rone_of {p : T_api_Player} {i : Int} (h : PG p) (hi : 0 ≤ i ∧ i ≤ 255) : m_hindcastref09_one F p i = some (steerv p i) := by
  have h6 := h.C
  obtain ⟨r1, r2, r3⟩ := rdir_of (F := F) hi
  have hcool : (cond (decide ((0 : Int) < p.Cool)) (some (T_api_Player.mk p.X p.Y p.VX p.VY p.Health (IntKind.wrap .u8 (p.Cool - (1 : Int))) p.Face)) (some p)) = some (T_api_Player.mk p.X p.Y p.VX p.VY p.Health (coolv p.Cool) p.Face) := by
    unfold coolv
    by_cases hc : 0 < p.Cool
    · rw [decide_eq_true hc, cond_true, wr_u8 ⟨by omega, by omega⟩, show min p.Cool 1 = 1 by omega]
    · rw [decide_eq_false hc, cond_false, show p.Cool - min p.Cool 1 = p.Cool by omega]
  have hface : ∀ (q : T_api_Player) (dx dy : Int), (cond (decide ((0 : Int) < dx)) (some (T_api_Player.mk q.X q.Y q.VX q.VY q.Health q.Cool (0 : Int))) (cond (decide (dx < (0 : Int))) (some (T_api_Player.mk q.X q.Y q.VX q.VY q.Health q.Cool (1 : Int))) (cond (decide (dy < (0 : Int))) (some (T_api_Player.mk q.X q.Y q.VX q.VY q.Health q.Cool (2 : Int))) (cond (decide ((0 : Int) < dy)) (some (T_api_Player.mk q.X q.Y q.VX q.VY q.Health q.Cool (3 : Int))) (some q))))) = some (T_api_Player.mk q.X q.Y q.VX q.VY q.Health q.Cool (turnv q.Face dx dy)) := by
    intro q dx dy
    unfold turnv
    simp only [cond_dec]
    repeat' split
    all_goals rfl
  simp only [m_hindcastref09_one, r1, Option.bind_some, hcool, hface, r2, and_some, rspeed_of h.VX (wayv_in i 1 2), rspeed_of h.VY (wayv_in i 4 8), dxv, dyv]
  unfold steerv dashP
  cases dashv i && (coolv p.Cool == 0) <;> rfl

theorem rfire_cond {p : T_api_Player} {i : Int} {l : List T_api_Shot} {β : Type} (hi : 0 ≤ i ∧ i ≤ 255) (k : Bool → Option β) :
    (Option.bind (m_hindcastref06_Fire F i) fun v19 => (Option.bind (cond (!v19) (some (true)) (some ((p.Cool != (0 : Int))))) fun v25 => (Option.bind (cond v25 (some (true)) (some ((decide ((8 : Int) ≤ (l.length : Int)))))) k))) = k (!fireP p i l.length) := by
  obtain ⟨r1, r2, r3⟩ := rdir_of (F := F) hi
  have h8 : decide ((8 : Int) ≤ (l.length : Int)) = !decide (l.length < 8) := by
    rw [Bool.eq_iff_iff]; simp; omega
  simp only [r3, Option.bind_some, or_some, h8, bne]
  unfold fireP
  congr 1
  cases firev i <;> cases (p.Cool == 0) <;> rfl
theorem rshot_get {f : Int} (h : 0 ≤ f ∧ f ≤ 3) : getI ([(2048 : Int), (-2048 : Int), (0 : Int), (0 : Int)] : List Int) f = some (shotV f).1 ∧ getI ([(0 : Int), (0 : Int), (-2048 : Int), (2048 : Int)] : List Int) f = some (shotV f).2 := by
  have : f = 0 ∨ f = 1 ∨ f = 2 ∨ f = 3 := by omega
  rcases this with rfl | rfl | rfl | rfl <;> exact ⟨rfl, rfl⟩

theorem rtwo_of {s : T_api_State} {i j : Int} (hp : PG s.Players.1) (hq : PG s.Players.2) (hl : s.Shots.length ≤ 8) (hF : 10 ≤ F) (hi : 0 ≤ i ∧ i ≤ 255) (hj : 0 ≤ j ∧ j ≤ 255) :
    m_hindcastref09_two_o0 F s (i, j) = some ⟨s.Frame, s.Seed, ((fireOne s.Players.1 i 0 s.Shots).1, (fireOne s.Players.2 j 1 (fireOne s.Players.1 i 0 s.Shots).2).1), (fireOne s.Players.2 j 1 (fireOne s.Players.1 i 0 s.Shots).2).2, s.Score⟩ := by
  obtain ⟨f, d, ⟨p, q⟩, l, sc⟩ := s
  simp only at hp hq hl ⊢
  obtain ⟨m, hm⟩ : ∃ m, F = m + 3 := ⟨F - 3, by omega⟩
  have w1 : IntKind.wrap .i64 ((0 : Int) + 1) = 1 := wr_i64 ⟨by omega, by omega⟩
  have w2 : IntKind.wrap .i64 ((1 : Int) + 1) = 2 := wr_i64 ⟨by omega, by omega⟩
  have u0 : IntKind.wrap .u8 (0 : Int) = 0 := wr_u8 ⟨by omega, by omega⟩
  have u1 : IntKind.wrap .u8 (1 : Int) = 1 := wr_u8 ⟨by omega, by omega⟩
  have hp1 := hp.X; have hp2 := hp.Y; have hq1 := hq.X; have hq2 := hq.Y
  have x1 : IntKind.wrap .i32 (p.X + 1792) = p.X + 1792 := wr_i32 ⟨by omega, by omega⟩
  have x2 : IntKind.wrap .i32 (p.Y + 1792) = p.Y + 1792 := wr_i32 ⟨by omega, by omega⟩
  have y1 : IntKind.wrap .i32 (q.X + 1792) = q.X + 1792 := wr_i32 ⟨by omega, by omega⟩
  have y2 : IntKind.wrap .i32 (q.Y + 1792) = q.Y + 1792 := wr_i32 ⟨by omega, by omega⟩
  obtain ⟨gp1, gp2⟩ := rshot_get hp.A
  obtain ⟨gq1, gq2⟩ := rshot_get hq.A
  have e : ∀ x a b, m_hindcastref09_two_o0_L6 F (i, j) F x a b = m_hindcastref09_two_o0_L6 F (i, j) (m + 3) x a b := fun x a b => by rw [← hm]
  have two : ∀ (p' : T_api_Player) (l' : List T_api_Shot), l'.length ≤ 9 → m_hindcastref09_two_o0_L6 F (i, j) (m + 2) 1 (p', q) l' = some ((p', (fireOne q j 1 l').1), (fireOne q j 1 l').2) := by
    intro p' l' hl'
    rw [m_hindcastref09_two_o0_L6.eq_2]
    simp only [show decide ((1 : Int) < 2) = true from rfl, show ((1 : Int) == 0) = false from rfl, show ((1 : Int) == 1) = true from rfl, cond_true, cond_false, w2, u1, y1, y2, gq1, gq2, Option.bind_some]
    rw [rfire_cond (p := q) hj (fun v66 => cond v66 _ _)]
    unfold fireOne
    cases fireP q j l'.length
    · simp only [Bool.not_false, cond_true, m_hindcastref09_two_o0_L6.eq_2, show decide ((2 : Int) < 2) = false from rfl, cond_false]
      rfl
    · simp only [Bool.not_true, cond_false]
      rw [appI_of (by simp; omega)]
      simp only [Option.bind_some, m_hindcastref09_two_o0_L6.eq_2, show decide ((2 : Int) < 2) = false from rfl, cond_false]
      rfl
  have one : m_hindcastref09_two_o0_L6 F (i, j) F 0 (p, q) l = some (((fireOne p i 0 l).1, (fireOne q j 1 (fireOne p i 0 l).2).1), (fireOne q j 1 (fireOne p i 0 l).2).2) := by
    rw [e, m_hindcastref09_two_o0_L6.eq_2]
    simp only [show decide ((0 : Int) < 2) = true from rfl, show ((0 : Int) == 0) = true from rfl, cond_true, w1, u0, x1, x2, gp1, gp2, Option.bind_some]
    rw [rfire_cond (p := p) hi (fun v66 => cond v66 _ _)]
    unfold fireOne
    cases hc : fireP p i l.length
    · simp only [Bool.not_false, cond_true, Bool.false_eq_true, if_false]
      exact two p l (by omega)
    · simp only [Bool.not_true, cond_false, if_true]
      rw [appI_of (by simp; omega)]
      simp only [Option.bind_some]
      exact two (fired p) (l ++ [shootv p 0]) (by simp; omega)
  simp only [m_hindcastref09_two_o0, one, Option.bind_some]

theorem rover_of {x y w h x' y' w' h' : Int} (a1 : -100000 ≤ x ∧ x ≤ 100000) (a2 : -100000 ≤ y ∧ y ≤ 100000) (a3 : 0 ≤ w ∧ w ≤ 100000) (a4 : 0 ≤ h ∧ h ≤ 100000)
    (b1 : -100000 ≤ x' ∧ x' ≤ 100000) (b2 : -100000 ≤ y' ∧ y' ≤ 100000) (b3 : 0 ≤ w' ∧ w' ≤ 100000) (b4 : 0 ≤ h' ∧ h' ≤ 100000) : m_hindcastref07_Over F ⟨x, y, w, h⟩ ⟨x', y', w', h'⟩ = some (overB x y w h x' y' w' h') := by
  have gr : ∀ a b : Int, m_hindcastref07_greater F a b = some (max a b) := by
    intro a b
    simp only [m_hindcastref07_greater, cond_dec]
    split <;> congr 1 <;> omega
  have w1 : IntKind.wrap .i64 x = x := wr_i64 ⟨by omega, by omega⟩
  have w2 : IntKind.wrap .i64 y = y := wr_i64 ⟨by omega, by omega⟩
  have w3 : IntKind.wrap .i64 w = w := wr_i64 ⟨by omega, by omega⟩
  have w4 : IntKind.wrap .i64 h = h := wr_i64 ⟨by omega, by omega⟩
  have v1 : IntKind.wrap .i64 x' = x' := wr_i64 ⟨by omega, by omega⟩
  have v2 : IntKind.wrap .i64 y' = y' := wr_i64 ⟨by omega, by omega⟩
  have v3 : IntKind.wrap .i64 w' = w' := wr_i64 ⟨by omega, by omega⟩
  have v4 : IntKind.wrap .i64 h' = h' := wr_i64 ⟨by omega, by omega⟩
  have u1 : IntKind.wrap .i64 (max x x' - x) = max x x' - x := wr_i64 ⟨by omega, by omega⟩
  have u2 : IntKind.wrap .i64 (max x x' - x') = max x x' - x' := wr_i64 ⟨by omega, by omega⟩
  have u3 : IntKind.wrap .i64 (max y y' - y) = max y y' - y := wr_i64 ⟨by omega, by omega⟩
  have u4 : IntKind.wrap .i64 (max y y' - y') = max y y' - y' := wr_i64 ⟨by omega, by omega⟩
  simp only [m_hindcastref07_Over, m_hindcastref07_Has, w1, w2, w3, w4, v1, v2, v3, v4, gr, u1, u2, u3, u4, Option.bind_some, and_some, overB]
  rw [Option.some.injEq, Bool.eq_iff_iff]
  simp only [Bool.and_eq_true, decide_eq_true_eq]
  omega
theorem rover_pp {p q : T_api_Player} (hp : PG p) (hq : PG q) : m_hindcastref07_Over F ⟨p.X, p.Y, 4096, 4096⟩ ⟨q.X, q.Y, 4096, 4096⟩ = some (overP p q) := by
  have h1 := hp.X; have h2 := hp.Y; have h3 := hq.X; have h4 := hq.Y
  exact rover_of (by omega) (by omega) (by omega) (by omega) (by omega) (by omega) (by omega) (by omega)
theorem rinside_of {x y : Int} (a1 : -100000 ≤ x ∧ x ≤ 100000) (a2 : -100000 ≤ y ∧ y ≤ 100000) : m_hindcastref07_Inside F ⟨x, y, 512, 512⟩ ⟨0, 0, 65536, 32768⟩ = some (decide (0 ≤ x ∧ x + 512 ≤ 65536 ∧ 0 ≤ y ∧ y + 512 ≤ 32768)) := by
  have w0 : IntKind.wrap .i64 (0 : Int) = 0 := wr_i64 ⟨by omega, by omega⟩
  have w1 : IntKind.wrap .i64 x = x := wr_i64 ⟨by omega, by omega⟩
  have w2 : IntKind.wrap .i64 y = y := wr_i64 ⟨by omega, by omega⟩
  have w3 : IntKind.wrap .i64 (512 : Int) = 512 := wr_i64 ⟨by omega, by omega⟩
  have w4 : IntKind.wrap .i64 (x + 512) = x + 512 := wr_i64 ⟨by omega, by omega⟩
  have w5 : IntKind.wrap .i64 (y + 512) = y + 512 := wr_i64 ⟨by omega, by omega⟩
  have w6 : IntKind.wrap .i64 (x + 512 - 1) = x + 512 - 1 := wr_i64 ⟨by omega, by omega⟩
  have w7 : IntKind.wrap .i64 (y + 512 - 1) = y + 512 - 1 := wr_i64 ⟨by omega, by omega⟩
  have w8 : IntKind.wrap .i64 (65536 : Int) = 65536 := wr_i64 ⟨by omega, by omega⟩
  have w9 : IntKind.wrap .i64 (32768 : Int) = 32768 := wr_i64 ⟨by omega, by omega⟩
  have z1 : IntKind.wrap .i64 (x - 0) = x - 0 := wr_i64 ⟨by omega, by omega⟩
  have z2 : IntKind.wrap .i64 (y - 0) = y - 0 := wr_i64 ⟨by omega, by omega⟩
  have z3 : IntKind.wrap .i64 (x + 512 - 1 - 0) = x + 512 - 1 - 0 := wr_i64 ⟨by omega, by omega⟩
  have z4 : IntKind.wrap .i64 (y + 512 - 1 - 0) = y + 512 - 1 - 0 := wr_i64 ⟨by omega, by omega⟩
  simp only [m_hindcastref07_Inside, m_hindcastref07_Has, w0, w1, w2, w3, w4, w5, w6, w7, w8, w9, z1, z2, z3, z4, Option.bind_some, and_some]
  rw [Option.some.injEq, Bool.eq_iff_iff]
  simp only [Bool.and_eq_true, decide_eq_true_eq]
  omega
theorem rmove_of {x v hi : Int} (h : 0 ≤ x ∧ x ≤ hi) (hv : -1024 ≤ v ∧ v ≤ 1024) (hh : hi ≤ 100000) : m_hindcastref07_Move F x v 0 hi = some (movev x v hi) := by
  have w1 : IntKind.wrap .i64 x = x := wr_i64 ⟨by omega, by omega⟩
  have w2 : IntKind.wrap .i64 v = v := wr_i64 ⟨by omega, by omega⟩
  have w3 : IntKind.wrap .i64 (x + v) = x + v := wr_i64 ⟨by omega, by omega⟩
  have w4 : IntKind.wrap .i64 hi = hi := wr_i64 ⟨by omega, by omega⟩
  have w5 : IntKind.wrap .i64 (0 : Int) = 0 := wr_i64 ⟨by omega, by omega⟩
  have w6 : IntKind.wrap .i32 (x + v) = x + v := wr_i32 ⟨by omega, by omega⟩
  simp only [m_hindcastref07_Move, w1, w2, w3, w4, w5, w6, decide_eq_false (show ¬ hi < 0 by omega), cond_false, cond_dec, movev]
  repeat' split
  all_goals rfl

theorem rthree_of {s : T_api_State} (hp : PG s.Players.1) (hq : PG s.Players.2) (hF : 10 ≤ F) : m_hindcastref09_three_o0 F s = some ⟨s.Frame, s.Seed, threev s.Players.1 s.Players.2, s.Shots, s.Score⟩ := by
  obtain ⟨f, d, ⟨p, q⟩, l, sc⟩ := s
  simp only at hp hq ⊢
  obtain ⟨m, hm⟩ : ∃ m, F = m + 3 := ⟨F - 3, by omega⟩
  have w1 : IntKind.wrap .i64 ((0 : Int) + 1) = 1 := wr_i64 ⟨by omega, by omega⟩
  have w2 : IntKind.wrap .i64 ((1 : Int) + 1) = 2 := wr_i64 ⟨by omega, by omega⟩
  have L1 : m_hindcastref09_three_o0_L8 F ⟨f, d, (p, q), l, sc⟩ F 0 (p, q) = some (movedv p, movedv q) := by
    have e : m_hindcastref09_three_o0_L8 F ⟨f, d, (p, q), l, sc⟩ F 0 (p, q) = m_hindcastref09_three_o0_L8 F ⟨f, d, (p, q), l, sc⟩ (m + 3) 0 (p, q) := by rw [← hm]
    rw [e]
    simp only [m_hindcastref09_three_o0_L8, show decide ((0 : Int) < 2) = true from rfl, show decide ((1 : Int) < 2) = true from rfl, show decide ((2 : Int) < 2) = false from rfl,
      show ((0 : Int) == 0) = true from rfl, show ((1 : Int) == 0) = false from rfl, show ((1 : Int) == 1) = true from rfl, cond_true, cond_false, w1, w2, rmove_of hp.X hp.VX (by omega), rmove_of hp.Y hp.VY (by omega), rmove_of hq.X hq.VX (by omega), rmove_of hq.Y hq.VY (by omega), Option.bind_some]
    rfl
  have L2 : m_hindcastref09_three_o0_L34 F F 0 (p, q) = some (stopv p, stopv q) := by
    have e : m_hindcastref09_three_o0_L34 F F 0 (p, q) = m_hindcastref09_three_o0_L34 F (m + 3) 0 (p, q) := by rw [← hm]
    rw [e]
    simp only [m_hindcastref09_three_o0_L34, show decide ((0 : Int) < 2) = true from rfl, show decide ((1 : Int) < 2) = true from rfl, show decide ((2 : Int) < 2) = false from rfl,
      show ((0 : Int) == 0) = true from rfl, show ((1 : Int) == 0) = false from rfl, show ((1 : Int) == 1) = true from rfl, cond_true, cond_false, w1, w2]
    rfl
  simp only [m_hindcastref09_three_o0, L1, Option.bind_some, m_hindcastref09_Box, rover_pp (moved_pg hp) (moved_pg hq), L2]
  unfold threev
  cases overP (movedv p) (movedv q) <;> rfl

theorem rfour_loop {s : T_api_State} (hs : ∀ x ∈ s.Shots, SG x) (h8 : s.Shots.length ≤ 100) : ∀ (m i : Nat) (c : FlySt), s.Shots.length - i < m → i ≤ s.Shots.length → FG c i →
    m_hindcastref09_four_L10 F s m (i : Int) c.2.1 c.1 c.2.2 = some (((s.Shots.drop i).foldl flyOne c).2.1, ((s.Shots.drop i).foldl flyOne c).1, ((s.Shots.drop i).foldl flyOne c).2.2)
  | 0, i, c, hm, _, _ => by omega
  | m + 1, i, c, hm, hi, hc => by
    rw [m_hindcastref09_four_L10.eq_2]
    by_cases h1 : i < s.Shots.length
    · have hx : s.Shots[i]? = some s.Shots[i] := List.getElem?_eq_getElem h1
      have hg := hs _ (List.mem_of_getElem? hx)
      have hw : IntKind.wrap .i64 ((i : Int) + 1) = ((i + 1 : Nat) : Int) := by rw [wr_i64 ⟨by omega, by omega⟩]; omega
      have ih := rfour_loop hs h8 m (i + 1) (flyOne c s.Shots[i]) (by omega) (by omega) (fly_fg hc hg)
      have hd : (s.Shots.drop i).foldl flyOne c = (s.Shots.drop (i + 1)).foldl flyOne (flyOne c s.Shots[i]) := by rw [List.drop_eq_getElem_cons h1, List.foldl_cons]
      rw [hd, ← ih]
      clear ih hd
      simp only [decide_eq_true (show (i : Int) < (s.Shots.length : Int) by omega), cond_true, getI_nat, hx, Option.bind_some, hw, m_hindcastref09_Box]
      generalize s.Shots[i] = x at *
      have g1 := hg.X; have g2 := hg.Y; have g3 := hg.VX; have g4 := hg.VY; have g6 := hg.L
      have p1 := hc.P.X; have p2 := hc.P.Y; have q1 := hc.Q.X; have q2 := hc.Q.Y
      have p5 := hc.P.H; have q5 := hc.Q.H
      have s1 := hc.S1; have s2 := hc.S2
      have hN := hc.N
      obtain ⟨l, ⟨p, q⟩, ⟨a, b⟩⟩ := c
      simp only at p1 p2 q1 q2 p5 q5 s1 s2 hN ⊢
      have wx : IntKind.wrap .i32 (x.X + x.VX) = x.X + x.VX := wr_i32 ⟨by omega, by omega⟩
      have wy : IntKind.wrap .i32 (x.Y + x.VY) = x.Y + x.VY := wr_i32 ⟨by omega, by omega⟩
      have wl : IntKind.wrap .u8 (x.Life - 1) = x.Life - 1 := wr_u8 ⟨by omega, by omega⟩
      have hh : ∀ (H : Int), 0 ≤ H ∧ H ≤ 100 → ∀ {β : Type} (k : Int → Option β), (Option.bind ((cond (decide (H < (10 : Int))) (some (10 : Int)) (some H))) fun j47_8 => k (IntKind.wrap .u8 (j47_8 - 10))) = k (H - min H 10) := by
        intro H hH β k
        by_cases h10 : H < 10
        · rw [decide_eq_true h10, cond_true, Option.bind_some, wr_u8 ⟨by omega, by omega⟩]; congr 1; omega
        · rw [decide_eq_false h10, cond_false, Option.bind_some, wr_u8 ⟨by omega, by omega⟩]; congr 1; omega
      have hsc : ∀ (n : Int), 0 ≤ n ∧ n ≤ 65535 → ∀ {β : Type} (k : Int → β), (cond (decide (n < 65535)) (k (IntKind.wrap .u16 (n + 1))) (k n)) = k (scored n) := by
        intro n hn β k
        unfold scored
        by_cases h10 : n < 65535
        · rw [decide_eq_true h10, cond_true, wr_u16 ⟨by omega, by omega⟩]; congr 1; omega
        · rw [decide_eq_false h10, cond_false]; congr 1; omega
      have hI : m_hindcastref07_Inside F (T_api_Box.mk (x.X + x.VX) (x.Y + x.VY) 512 512) (T_api_Box.mk 0 0 65536 32768) = some (insS (nextSh x)) := rinside_of (by omega) (by omega)
      have hP : m_hindcastref07_Over F (T_api_Box.mk (x.X + x.VX) (x.Y + x.VY) 512 512) (T_api_Box.mk p.X p.Y 4096 4096) = some (hitS (nextSh x) p) := rover_of (by omega) (by omega) (by omega) (by omega) (by omega) (by omega) (by omega) (by omega)
      have hQ : m_hindcastref07_Over F (T_api_Box.mk (x.X + x.VX) (x.Y + x.VY) 512 512) (T_api_Box.mk q.X q.Y 4096 4096) = some (hitS (nextSh x) q) := rover_of (by omega) (by omega) (by omega) (by omega) (by omega) (by omega) (by omega) (by omega)
      have hap : appI l [nextSh x] = some (l ++ [nextSh x]) := appI_of (by simp; omega)
      simp only [wx, wy, wl, hI, hP, hQ, Option.bind_some]
      have hns : T_api_Shot.mk (x.X + x.VX) (x.Y + x.VY) x.VX x.VY x.Owner (x.Life - 1) = nextSh x := rfl
      rw [hns, hap]
      rcases hg.O with ho | ho
      · have e0 : IntKind.wrap .u8 ((1 : Int) - x.Owner) = 1 := by rw [ho]; exact wr_u8 ⟨by omega, by omega⟩
        simp only [e0, ho, show IntKind.wrap .u8 ((1 : Int) - 0) = 1 from by rw [wr_u8 ⟨by omega, by omega⟩]; rfl, show IntKind.wrap .u8 ((1 : Int) - 1) = 0 from by rw [wr_u8 ⟨by omega, by omega⟩]; rfl, show ((1 : Int) == 0) = false from rfl, show ((1 : Int) == 1) = true from rfl, show ((0 : Int) == 0) = true from rfl, cond_true, cond_false]
        unfold flyOne
        cases insS (nextSh x)
        · rfl
        · simp only [Bool.not_true, cond_false, if_true, ho]
          cases hitS (nextSh x) q
          · simp only [cond_false, cond_dec, Bool.false_eq_true, if_false, Option.bind_some]
            split <;> rfl
          · simp only [cond_true]
            rw [hh q.Health q5 (fun z => cond (decide (a < 65535)) (m_hindcastref09_four_L10 F s m ((i + 1 : Nat) : Int) (p, ⟨q.X, q.Y, q.VX, q.VY, z, q.Cool, q.Face⟩) l (IntKind.wrap .u16 (a + 1), b)) (m_hindcastref09_four_L10 F s m ((i + 1 : Nat) : Int) (p, ⟨q.X, q.Y, q.VX, q.VY, z, q.Cool, q.Face⟩) l (a, b)))]
            rw [hsc a s1 (fun z => m_hindcastref09_four_L10 F s m ((i + 1 : Nat) : Int) (p, ⟨q.X, q.Y, q.VX, q.VY, q.Health - min q.Health 10, q.Cool, q.Face⟩) l (z, b))]
            rfl
      · have e0 : IntKind.wrap .u8 ((1 : Int) - x.Owner) = 0 := by rw [ho]; exact wr_u8 ⟨by omega, by omega⟩
        simp only [e0, ho, show IntKind.wrap .u8 ((1 : Int) - 0) = 1 from by rw [wr_u8 ⟨by omega, by omega⟩]; rfl, show IntKind.wrap .u8 ((1 : Int) - 1) = 0 from by rw [wr_u8 ⟨by omega, by omega⟩]; rfl, show ((1 : Int) == 0) = false from rfl, show ((1 : Int) == 1) = true from rfl, show ((0 : Int) == 0) = true from rfl, cond_true, cond_false]
        unfold flyOne
        cases insS (nextSh x)
        · rfl
        · simp only [Bool.not_true, cond_false, if_true, ho, show ¬ (1 : Int) = 0 by omega, if_false]
          cases hitS (nextSh x) p
          · simp only [cond_false, cond_dec, Bool.false_eq_true, if_false, Option.bind_some]
            split <;> rfl
          · simp only [cond_true]
            rw [hh p.Health p5 (fun z => cond (decide (b < 65535)) (m_hindcastref09_four_L10 F s m ((i + 1 : Nat) : Int) (⟨p.X, p.Y, p.VX, p.VY, z, p.Cool, p.Face⟩, q) l (a, IntKind.wrap .u16 (b + 1))) (m_hindcastref09_four_L10 F s m ((i + 1 : Nat) : Int) (⟨p.X, p.Y, p.VX, p.VY, z, p.Cool, p.Face⟩, q) l (a, b)))]
            rw [hsc b s2 (fun z => m_hindcastref09_four_L10 F s m ((i + 1 : Nat) : Int) (⟨p.X, p.Y, p.VX, p.VY, p.Health - min p.Health 10, p.Cool, p.Face⟩, q) l (a, z))]
            rfl
    · simp only [decide_eq_false (show ¬ (i : Int) < (s.Shots.length : Int) by omega), cond_false]
      rw [List.drop_of_length_le (by omega)]
      rfl

theorem rmix_of (z : Int) : m_hindcastref05_Mix F z = some (mixN z) := (show m_hindcastref05_Mix F z = m_rng_Mix F z from rfl).trans (mix_of z)
theorem rbelow_of {d n : Int} (hn : 1 ≤ n ∧ n ≤ 100000) : m_hindcastref05_Below F d n = some (belowN d n, nextS d) := by
  have hN : IntKind.wrap .u64 (d + 11400714819323198485) = nextS d := rfl
  have w3 : IntKind.wrap .u64 n = n := wr_u64 ⟨by omega, by omega⟩
  have hm := mixN_in (nextS d)
  have t1 : Int.tdiv (mixN (nextS d)) 4294967296 = mixN (nextS d) / 4294967296 := Int.tdiv_eq_ediv_of_nonneg hm.1
  have w4 : IntKind.wrap .u64 (mixN (nextS d) / 4294967296) = mixN (nextS d) / 4294967296 := by
    generalize mixN (nextS d) = x at *
    exact wr_u64 ⟨by omega, by omega⟩
  have hb := below_raw (d := d) hn
  have hw := wrap64_in (mixN (nextS d) / 4294967296 * n)
  have t2 : Int.tdiv (IntKind.wrap .u64 (mixN (nextS d) / 4294967296 * n)) 4294967296 = IntKind.wrap .u64 (mixN (nextS d) / 4294967296 * n) / 4294967296 := Int.tdiv_eq_ediv_of_nonneg hw.1
  have w5 : IntKind.wrap .u64 (IntKind.wrap .u64 (mixN (nextS d) / 4294967296 * n) / 4294967296) = IntKind.wrap .u64 (mixN (nextS d) / 4294967296 * n) / 4294967296 := by
    generalize IntKind.wrap .u64 (mixN (nextS d) / 4294967296 * n) = z at *
    exact wr_u64 ⟨by omega, by omega⟩
  simp only [m_hindcastref05_Below, m_hindcastref05_Next, m_hindcastref05_Stride, Option.bind_some, decide_eq_false (show ¬ n < 1 by omega), decide_eq_false (show ¬ (2147483648 : Int) < n by omega), cond_false, hN, rmix_of, t1, w3, w4, t2, w5, hb]

end Go.Proofs.YtkdbpenjkcjimaaGreatDoor
