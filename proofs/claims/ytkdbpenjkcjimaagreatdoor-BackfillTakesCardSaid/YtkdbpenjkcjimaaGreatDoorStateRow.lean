/-
  What a row's fact on a state gives: the state, its shots readable, its numbers in range.
-/
import Derived.Test.YtkdbpenjkcjimaaGreatDoorStatePure
import Derived.Test.YtkdbpenjkcjimaaGreatDoorTab
namespace Go.Proofs.YtkdbpenjkcjimaaGreatDoor
open Go Go.Proofs.YtkdbpenjkcjimaaGreatDoor.Eng
set_option linter.unusedSimpArgs false
set_option linter.unusedVariables false
set_option maxHeartbeats 1000000

theorem wf_i32' {n : Int} (h : (Lit.int .i32 n).wf = true) : -2147483648 ≤ n ∧ n ≤ 2147483647 := by
  simp [Lit.wf, IntKind.min, IntKind.max, IntKind.bits, IntKind.signed] at h; omega

theorem shot_rd {w : World} {m : Nat} {cs : List Value} (h : Rdw TT w (m + 2) 119 cs) : ∃ x : T_api_Shot, cs = c_T_api_Shot x ∧ ShOk x := by
  obtain ⟨hl, hf⟩ := rd_struct h rfl
  match cs, hl with
  | [c0, c1, c2, c3, c4, c5], _ =>
    obtain ⟨n0, rfl, w0⟩ := rd_cell (hf (21, 0) (by simp)) rfl
    obtain ⟨n1, rfl, w1⟩ := rd_cell (hf (21, 1) (by simp)) rfl
    obtain ⟨n2, rfl, w2⟩ := rd_cell (hf (21, 2) (by simp)) rfl
    obtain ⟨n3, rfl, w3⟩ := rd_cell (hf (21, 3) (by simp)) rfl
    obtain ⟨n4, rfl, w4⟩ := rd_cell (hf (5, 4) (by simp)) rfl
    obtain ⟨n5, rfl, w5⟩ := rd_cell (hf (5, 5) (by simp)) rfl
    exact ⟨⟨n0, n1, n2, n3, n4, n5⟩, rfl, ⟨wf_i32' w0, wf_i32' w1, wf_i32' w2, wf_i32' w3, wf_u8 w4, wf_u8 w5⟩⟩

theorem player_rd {w : World} {m : Nat} {cs : List Value} (h : Rdw TT w (m + 2) 58 cs) : ∃ x : T_api_Player, cs = [.int .i32 x.X, .int .i32 x.Y, .int .i32 x.VX, .int .i32 x.VY, .int .u8 x.Health, .int .u8 x.Cool, .int .u8 x.Face] ∧ PlOk x := by
  obtain ⟨hl, hf⟩ := rd_struct h rfl
  match cs, hl with
  | [c0, c1, c2, c3, c4, c5, c6], _ =>
    obtain ⟨n0, rfl, w0⟩ := rd_cell (hf (21, 0) (by simp)) rfl
    obtain ⟨n1, rfl, w1⟩ := rd_cell (hf (21, 1) (by simp)) rfl
    obtain ⟨n2, rfl, w2⟩ := rd_cell (hf (21, 2) (by simp)) rfl
    obtain ⟨n3, rfl, w3⟩ := rd_cell (hf (21, 3) (by simp)) rfl
    obtain ⟨n4, rfl, w4⟩ := rd_cell (hf (5, 4) (by simp)) rfl
    obtain ⟨n5, rfl, w5⟩ := rd_cell (hf (5, 5) (by simp)) rfl
    obtain ⟨n6, rfl, w6⟩ := rd_cell (hf (5, 6) (by simp)) rfl
    exact ⟨⟨n0, n1, n2, n3, n4, n5, n6⟩, rfl, ⟨wf_i32' w0, wf_i32' w1, wf_i32' w2, wf_i32' w3, wf_u8 w4, wf_u8 w5, wf_u8 w6⟩⟩

theorem state_rdz {W : World} {m : Nat} {cs : List Value} (h : Rdw TT W (m + 4) 64 cs) :
    ∃ (s : T_api_State) (a : Option Addr) (n cap : Nat), cs = [.int .u64 s.Frame, .int .u64 s.Seed, .int .i32 s.Players.1.X, .int .i32 s.Players.1.Y, .int .i32 s.Players.1.VX, .int .i32 s.Players.1.VY, .int .u8 s.Players.1.Health, .int .u8 s.Players.1.Cool, .int .u8 s.Players.1.Face,
      .int .i32 s.Players.2.X, .int .i32 s.Players.2.Y, .int .i32 s.Players.2.VX, .int .i32 s.Players.2.VY, .int .u8 s.Players.2.Health, .int .u8 s.Players.2.Cool, .int .u8 s.Players.2.Face, .slice a n cap, .int .u16 s.Score.1, .int .u16 s.Score.2] ∧
      n = s.Shots.length ∧ n ≤ cap ∧ Rds W [] [] a (flat c_T_api_Shot s.Shots) ∧ StOk s ∧ (a = none → cap = 0) := by
  obtain ⟨hl, hf⟩ := rd_struct h rfl
  match cs, hl with
  | [c0, c1, p0, p1, p2, p3, p4, p5, p6, q0, q1, q2, q3, q4, q5, q6, v, s0, s1], _ =>
    obtain ⟨f, rfl, wf⟩ := rd_cell (hf (22, 0) (by simp)) rfl
    obtain ⟨d, rfl, wd⟩ := rd_cell (hf (22, 1) (by simp)) rfl
    have hP : Rdw TT W (m + 3) 59 [p0, p1, p2, p3, p4, p5, p6, q0, q1, q2, q3, q4, q5, q6] := hf (59, 2) (by simp)
    have hS : Rdw TT W (m + 3) 60 [v] := hf (60, 16) (by simp)
    have hC : Rdw TT W (m + 3) 62 [s0, s1] := hf (62, 17) (by simp)
    obtain ⟨_, hPf⟩ := rd_arr hP rfl
    obtain ⟨_, hCf⟩ := rd_arr hC rfl
    have hP0 : Rdw TT W (m + 2) 58 [p0, p1, p2, p3, p4, p5, p6] := hPf 0 (by omega)
    have hP1 : Rdw TT W (m + 2) 58 [q0, q1, q2, q3, q4, q5, q6] := hPf 1 (by omega)
    obtain ⟨u0, rfl, w0⟩ := rd_cell (hCf 0 (by omega)) rfl
    obtain ⟨u1, rfl, w1⟩ := rd_cell (hCf 1 (by omega)) rfl
    obtain ⟨x, hx, ox⟩ := player_rd hP0
    obtain ⟨y, hy, oy⟩ := player_rd hP1
    obtain ⟨a, n, cap, xs, hv, hn, hc, _, hr, hok, hz⟩ := rd_listz (enc := c_T_api_Shot) (ok := ShOk) hS rfl rfl c_T_api_Shot_len (fun es _ h => shot_rd h)
    refine ⟨⟨f, d, (x, y), xs, (u0, u1)⟩, a, n, cap, ?_, hn, hc, hr, ⟨wf_u64 wf, wf_u64 wd, ox, oy, hok, wf_u16 w0, wf_u16 w1⟩, hz⟩
    simp only [List.cons.injEq, and_true] at hx hy
    obtain ⟨rfl, rfl, rfl, rfl, rfl, rfl, rfl⟩ := hx
    obtain ⟨rfl, rfl, rfl, rfl, rfl, rfl, rfl⟩ := hy
    rw [hv]

theorem state_rd {W : World} {m : Nat} {cs : List Value} (h : Rdw TT W (m + 4) 64 cs) :
    ∃ (s : T_api_State) (a : Option Addr) (n cap : Nat), cs = [.int .u64 s.Frame, .int .u64 s.Seed, .int .i32 s.Players.1.X, .int .i32 s.Players.1.Y, .int .i32 s.Players.1.VX, .int .i32 s.Players.1.VY, .int .u8 s.Players.1.Health, .int .u8 s.Players.1.Cool, .int .u8 s.Players.1.Face,
      .int .i32 s.Players.2.X, .int .i32 s.Players.2.Y, .int .i32 s.Players.2.VX, .int .i32 s.Players.2.VY, .int .u8 s.Players.2.Health, .int .u8 s.Players.2.Cool, .int .u8 s.Players.2.Face, .slice a n cap, .int .u16 s.Score.1, .int .u16 s.Score.2] ∧
      n = s.Shots.length ∧ n ≤ cap ∧ Rds W [] [] a (flat c_T_api_Shot s.Shots) ∧ StOk s := by
  obtain ⟨s, a, n, cap, h1, h2, h3, h4, h5, _⟩ := state_rdz h
  exact ⟨s, a, n, cap, h1, h2, h3, h4, h5⟩

end Go.Proofs.YtkdbpenjkcjimaaGreatDoor
