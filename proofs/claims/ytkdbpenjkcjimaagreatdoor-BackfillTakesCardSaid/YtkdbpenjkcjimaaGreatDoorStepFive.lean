/-
  What a frame makes of a state: the document's step is the definition in plain Lean.
-/
import Derived.Test.YtkdbpenjkcjimaaGreatDoorStepRef
namespace Go.Proofs.YtkdbpenjkcjimaaGreatDoor
open Go Go.Proofs.YtkdbpenjkcjimaaGreatDoor.Eng
set_option linter.unusedSimpArgs false
set_option linter.unusedVariables false
set_option maxHeartbeats 1000000

variable {F : Nat}

theorem rthere_over {p q : T_api_Player} {d : Int} (hp : PG p) (hq : PG q) : m_hindcastref07_Over F ⟨belowN d 61441, belowN (nextS d) 28673, 4096, 4096⟩ ⟨q.X, q.Y, 4096, 4096⟩ = some (overP (there p d) q) := by
  have h := rover_pp (F := F) (p := there p d) (q := q) (there_pg hp) hq
  rw [show (there p d).X = belowN d 61441 from rfl, show (there p d).Y = belowN (nextS d) 28673 from rfl] at h
  exact h

/-- Nothing is brought back. -/
theorem five_a0 {s : T_api_State} (h1 : PG s.Players.1) (hz : ¬ s.Players.1.Health = 0) : m_hindcastref09_five_o0 F s 0 = some s := by
  have hH := h1.H
  unfold m_hindcastref09_five_o0
  rw [show ((0 : Int) == 0) = true from rfl, cond_true, decide_eq_true (show 0 < s.Players.1.Health by omega), cond_true]
theorem five_a1 {s : T_api_State} (h1 : PG s.Players.2) (hz : ¬ s.Players.2.Health = 0) : m_hindcastref09_five_o0 F s 1 = some s := by
  have hH := h1.H
  unfold m_hindcastref09_five_o0
  rw [show ((1 : Int) == 0) = false from rfl, cond_false, show ((1 : Int) == 1) = true from rfl, cond_true, decide_eq_true (show 0 < s.Players.2.Health by omega), cond_true]
theorem five_b0 {s : T_api_State} {u v d1 d2 : Int} {o : Bool} (hz : s.Players.1.Health = 0) (B1 : m_hindcastref05_Below F s.Seed 61441 = some (u, d1)) (B2 : m_hindcastref05_Below F d1 28673 = some (v, d2)) (wu : IntKind.wrap .i32 u = u) (wv : IntKind.wrap .i32 v = v)
    (O : m_hindcastref07_Over F ⟨u, v, 4096, 4096⟩ ⟨s.Players.2.X, s.Players.2.Y, 4096, 4096⟩ = some o) :
    m_hindcastref09_five_o0 F s 0 = some ⟨s.Frame, d2, (cond o ⟨s.Players.1.X, s.Players.1.Y, 0, 0, 100, s.Players.1.Cool, s.Players.1.Face⟩ ⟨u, v, 0, 0, 100, s.Players.1.Cool, s.Players.1.Face⟩, s.Players.2), s.Shots, s.Score⟩ := by
  have w0 : IntKind.wrap .i64 ((1 : Int) - 0) = 1 := wr_i64 ⟨by omega, by omega⟩
  unfold m_hindcastref09_five_o0
  rw [show ((0 : Int) == 0) = true from rfl, cond_true, hz, show decide ((0 : Int) < 0) = false from rfl, cond_false, B1]
  simp only [Option.bind_some]
  rw [B2]
  simp only [Option.bind_some, wu, wv, m_hindcastref09_Box, w0, show ((1 : Int) == 0) = false from rfl, show ((1 : Int) == 1) = true from rfl, cond_true, cond_false]
  rw [O]
  cases o <;> rfl
theorem five_b1 {s : T_api_State} {u v d1 d2 : Int} {o : Bool} (hz : s.Players.2.Health = 0) (B1 : m_hindcastref05_Below F s.Seed 61441 = some (u, d1)) (B2 : m_hindcastref05_Below F d1 28673 = some (v, d2)) (wu : IntKind.wrap .i32 u = u) (wv : IntKind.wrap .i32 v = v)
    (O : m_hindcastref07_Over F ⟨u, v, 4096, 4096⟩ ⟨s.Players.1.X, s.Players.1.Y, 4096, 4096⟩ = some o) :
    m_hindcastref09_five_o0 F s 1 = some ⟨s.Frame, d2, (s.Players.1, cond o ⟨s.Players.2.X, s.Players.2.Y, 0, 0, 100, s.Players.2.Cool, s.Players.2.Face⟩ ⟨u, v, 0, 0, 100, s.Players.2.Cool, s.Players.2.Face⟩), s.Shots, s.Score⟩ := by
  have w0 : IntKind.wrap .i64 ((1 : Int) - 1) = 0 := wr_i64 ⟨by omega, by omega⟩
  unfold m_hindcastref09_five_o0
  rw [show ((1 : Int) == 0) = false from rfl, cond_false, show ((1 : Int) == 1) = true from rfl, cond_true, hz, show decide ((0 : Int) < 0) = false from rfl, cond_false, B1]
  simp only [Option.bind_some]
  rw [B2]
  simp only [Option.bind_some, wu, wv, m_hindcastref09_Box, w0, show ((0 : Int) == 0) = true from rfl, cond_true, cond_false]
  rw [O]
  cases o <;> rfl
theorem here_cond {p : T_api_Player} {d : Int} {q : T_api_Player} : cond (overP (there p d) q) ⟨p.X, p.Y, 0, 0, 100, p.Cool, p.Face⟩ ⟨belowN d 61441, belowN (nextS d) 28673, 0, 0, 100, p.Cool, p.Face⟩ = backv p q d := by
  have e1 : here p = ⟨p.X, p.Y, 0, 0, 100, p.Cool, p.Face⟩ := rfl
  have e2 : there p d = ⟨belowN d 61441, belowN (nextS d) 28673, 0, 0, 100, p.Cool, p.Face⟩ := rfl
  rw [← e1, ← e2]
  unfold backv
  generalize overP (there p d) q = o
  generalize there p d = t
  cases o <;> rfl
theorem wr_there {p : T_api_Player} {d : Int} (h : PG p) : IntKind.wrap .i32 (belowN d 61441) = belowN d 61441 ∧ IntKind.wrap .i32 (belowN (nextS d) 28673) = belowN (nextS d) 28673 := by
  have h1 := belowN_in (d := d) (n := 61441) (by omega)
  have h2 := belowN_in (d := nextS d) (n := 28673) (by omega)
  generalize belowN d 61441 = u at *
  generalize belowN (nextS d) 28673 = v at *
  exact ⟨wr_i32 ⟨by omega, by omega⟩, wr_i32 ⟨by omega, by omega⟩⟩
theorem rfive0_of {s : T_api_State} (h1 : PG s.Players.1) (h2 : PG s.Players.2) : m_hindcastref09_five_o0 F s 0 = some ⟨s.Frame, (rev0 s.Seed s.Players).1, (rev0 s.Seed s.Players).2, s.Shots, s.Score⟩ := by
  unfold rev0
  by_cases hz : s.Players.1.Health = 0
  · rw [if_pos hz, five_b0 hz (rbelow_of (by omega)) (rbelow_of (by omega)) (wr_there h1).1 (wr_there h1).2 (rthere_over h1 h2), here_cond]
  · rw [if_neg hz, five_a0 h1 hz]
theorem rfive1_of {s : T_api_State} (h1 : PG s.Players.1) (h2 : PG s.Players.2) : m_hindcastref09_five_o0 F s 1 = some ⟨s.Frame, (rev1 s.Seed s.Players).1, (rev1 s.Seed s.Players).2, s.Shots, s.Score⟩ := by
  unfold rev1
  by_cases hz : s.Players.2.Health = 0
  · rw [if_pos hz, five_b1 hz (rbelow_of (by omega)) (rbelow_of (by omega)) (wr_there h2).1 (wr_there h2).2 (rthere_over h2 h1), here_cond]
  · rw [if_neg hz, five_a1 h2 hz]

/-- The document's step. -/
theorem rstep_of {s : T_api_State} {i j : Int} (h : StOk s) (hl : s.Shots.length ≤ 100) (hF : 200 ≤ F) (hi : 0 ≤ i ∧ i ≤ 255) (hj : 0 ≤ j ∧ j ≤ 255) : m_hindcastref09_Step F s (i, j) = some (stepv s i j) := by
  have c1 := rcopy_of (F := F) (s := s) (by omega)
  have c2 := rcheck_of (F := F) (s := s) (by omega) (by omega)
  simp only [m_hindcastref09_Step, c1, c2, Option.bind_some, m_hindcastref06_Legal, or_some]
  by_cases hg : stGood s = true
  · rw [hg]
    simp only [if_true, show ((0 : Int) != 0) = false from rfl, Bool.false_or]
    by_cases hij : i < 64 ∧ j < 64
    · rw [decide_eq_true hij.1, decide_eq_true hij.2]
      simp only [Bool.not_true, Bool.or_false, cond_false]
      unfold stepv
      rw [if_pos ⟨hg, hij⟩]
      obtain ⟨⟨p1, _⟩, ⟨p2, _⟩, hs, h8⟩ := st_parts h hg
      have st1 := steer_pg (i := i) p1
      have st2 := steer_pg (i := j) p2
      obtain ⟨a1, a2, a3, a4, a5⟩ := fireOne_ok (i := i) (o := 0) st1 (.inl rfl) hs h8
      obtain ⟨b1, b2, b3, b4, b5⟩ := fireOne_ok (i := j) (o := 1) st2 (.inr rfl) a3 a4
      obtain ⟨t1, t2⟩ := three_pg a1 b1
      obtain ⟨hf, _⟩ := flown_ok (i := i) (j := j) h hg
      simp only [rone_of p1 hi, rone_of p2 hj, Option.bind_some]
      rw [rtwo_of (s := ⟨s.Frame, s.Seed, (steerv s.Players.1 i, steerv s.Players.2 j), s.Shots, s.Score⟩) st1 st2 h8 (by omega) hi hj]
      simp only [Option.bind_some]
      rw [rthree_of (s := ⟨s.Frame, s.Seed, ((fireOne (steerv s.Players.1 i) i 0 s.Shots).1, (fireOne (steerv s.Players.2 j) j 1 (fireOne (steerv s.Players.1 i) i 0 s.Shots).2).1), (fireOne (steerv s.Players.2 j) j 1 (fireOne (steerv s.Players.1 i) i 0 s.Shots).2).2, s.Score⟩) a1 b1 (by omega)]
      simp only [Option.bind_some, m_hindcastref09_four]
      have e4 := rfour_loop (F := F) (s := ⟨s.Frame, s.Seed, threev (fireOne (steerv s.Players.1 i) i 0 s.Shots).1 (fireOne (steerv s.Players.2 j) j 1 (fireOne (steerv s.Players.1 i) i 0 s.Shots).2).1, (fireOne (steerv s.Players.2 j) j 1 (fireOne (steerv s.Players.1 i) i 0 s.Shots).2).2, s.Score⟩) b3 (show (fireOne (steerv s.Players.2 j) j 1 (fireOne (steerv s.Players.1 i) i 0 s.Shots).2).2.length ≤ 100 by omega) F 0
        ([], threev (fireOne (steerv s.Players.1 i) i 0 s.Shots).1 (fireOne (steerv s.Players.2 j) j 1 (fireOne (steerv s.Players.1 i) i 0 s.Shots).2).1, s.Score) (show (fireOne (steerv s.Players.2 j) j 1 (fireOne (steerv s.Players.1 i) i 0 s.Shots).2).2.length - 0 < F by omega) (by omega) ⟨t1, t2, by simp, by simp, h.Sc1, h.Sc2⟩
      have e5 : m_hindcastref09_four_L10 F (T_api_State.mk s.Frame s.Seed (threev (fireOne (steerv s.Players.1 i) i 0 s.Shots).1 (fireOne (steerv s.Players.2 j) j 1 (fireOne (steerv s.Players.1 i) i 0 s.Shots).2).1) (fireOne (steerv s.Players.2 j) j 1 (fireOne (steerv s.Players.1 i) i 0 s.Shots).2).2 s.Score) F 0
          (threev (fireOne (steerv s.Players.1 i) i 0 s.Shots).1 (fireOne (steerv s.Players.2 j) j 1 (fireOne (steerv s.Players.1 i) i 0 s.Shots).2).1) [] s.Score = some ((flown s i j).2.1, (flown s i j).1, (flown s i j).2.2) := e4
      rw [e5]
      simp only [Option.bind_some]
      rw [rfive0_of (s := ⟨s.Frame, s.Seed, (flown s i j).2.1, (flown s i j).1, (flown s i j).2.2⟩) hf.P hf.Q]
      simp only [Option.bind_some]
      have hr0 : PG (rev0 s.Seed (flown s i j).2.1).2.1 ∧ PG (rev0 s.Seed (flown s i j).2.1).2.2 := by
        unfold rev0; split
        · exact ⟨(back_pg hf.P).1, hf.Q⟩
        · exact ⟨hf.P, hf.Q⟩
      rw [rfive1_of (s := ⟨s.Frame, (rev0 s.Seed (flown s i j).2.1).1, (rev0 s.Seed (flown s i j).2.1).2, (flown s i j).1, (flown s i j).2.2⟩) hr0.1 hr0.2]
      rfl
    · have : (!decide (i < 64) || !decide (j < 64)) = true := by
        rw [Bool.or_eq_true, Bool.not_eq_true', Bool.not_eq_true', decide_eq_false_iff_not, decide_eq_false_iff_not]; omega
      rw [this]
      unfold stepv
      rw [if_neg (by intro hh; exact hij hh.2)]
      rfl
  · have hg' : stGood s = false := by cases hq : stGood s with
      | false => rfl
      | true => exact absurd hq hg
    rw [hg']
    simp only [Bool.false_eq_true, if_false, show ((4 : Int) != 0) = true from rfl, Bool.true_or, cond_true]
    unfold stepv
    rw [if_neg (by rw [hg']; intro hh; exact absurd hh.1 (by decide))]
end Go.Proofs.YtkdbpenjkcjimaaGreatDoor
