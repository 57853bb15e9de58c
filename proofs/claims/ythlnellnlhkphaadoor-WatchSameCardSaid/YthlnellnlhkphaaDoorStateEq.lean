/-
  Which states are the same, and copies, in plain Lean.
-/
import Derived.Test.YthlnellnlhkphaaDoorStatePure
namespace Go.Proofs.YthlnellnlhkphaaDoor
open Go Go.Proofs.YthlnellnlhkphaaDoor.Eng
set_option linter.unusedSimpArgs false
set_option linter.unusedVariables false
set_option maxHeartbeats 1000000

variable {F : Nat}

def plE (p q : T_api_Player) : Bool := (p.X == q.X) && ((p.Y == q.Y) && ((p.VX == q.VX) && ((p.VY == q.VY) && ((p.Health == q.Health) && ((p.Cool == q.Cool) && (p.Face == q.Face))))))
def shE (x y : T_api_Shot) : Bool := (x.X == y.X) && ((x.Y == y.Y) && ((x.VX == y.VX) && ((x.VY == y.VY) && ((x.Owner == y.Owner) && (x.Life == y.Life)))))
def shsE : List T_api_Shot → List T_api_Shot → Bool
  | [], [] => true
  | x :: l, y :: r => shE x y && shsE l r
  | _, _ => false
def stE (a b : T_api_State) : Bool :=
  (a.Frame == b.Frame) && ((a.Seed == b.Seed) && ((plE a.Players.1 b.Players.1 && plE a.Players.2 b.Players.2) && (((a.Score.1 == b.Score.1) && (a.Score.2 == b.Score.2)) && shsE a.Shots b.Shots)))

theorem plE_iff {p q : T_api_Player} : plE p q = true ↔ p = q := by
  simp only [plE, Bool.and_eq_true, beq_iff_eq]
  constructor
  · rintro ⟨h1, h2, h3, h4, h5, h6, h7⟩
    cases p; cases q; simp_all
  · rintro rfl; simp
theorem shE_iff {x y : T_api_Shot} : shE x y = true ↔ x = y := by
  simp only [shE, Bool.and_eq_true, beq_iff_eq]
  constructor
  · rintro ⟨h1, h2, h3, h4, h5, h6⟩
    cases x; cases y; simp_all
  · rintro rfl; simp
theorem shsE_iff : ∀ {l r : List T_api_Shot}, shsE l r = true ↔ l = r
  | [], [] => by simp [shsE]
  | [], y :: r => by simp [shsE]
  | x :: l, [] => by simp [shsE]
  | x :: l, y :: r => by simp [shsE, shE_iff, shsE_iff (l := l) (r := r)]
theorem stE_iff {a b : T_api_State} : stE a b = true ↔ a = b := by
  simp only [stE, Bool.and_eq_true, beq_iff_eq, plE_iff, shsE_iff]
  constructor
  · rintro ⟨h1, h2, ⟨h3, h4⟩, ⟨h5, h6⟩, h7⟩
    obtain ⟨f, d, ⟨p, q⟩, l, ⟨u, v⟩⟩ := a
    obtain ⟨f', d', ⟨p', q'⟩, l', ⟨u', v'⟩⟩ := b
    simp_all
  · rintro rfl; simp
theorem stE_refl (a : T_api_State) : stE a a = true := stE_iff.2 rfl
theorem shsE_len {l r : List T_api_Shot} (h : l.length ≠ r.length) : shsE l r = false := by
  cases hq : shsE l r
  · rfl
  · exact absurd (congrArg List.length (shsE_iff.1 hq)) h







theorem copy_of {s : T_api_State} (hs : s.Shots.length ≤ 1000000) : m_state_Copy F s = some s := by
  simp only [m_state_Copy, m_slices_Clone___api_Shot_api_Shot]
  rw [appI_of (by simp; omega)]
  rfl

theorem start_of {d : Int} (hF : 3 ≤ F) : m_state_Start F d = some ⟨0, d, (⟨8192, 14336, 0, 0, 100, 0, 0⟩, ⟨53248, 14336, 0, 0, 100, 0, 1⟩), [], (0, 0)⟩ := by
  obtain ⟨m, hm⟩ : ∃ m, F = m + 3 := ⟨F - 3, by omega⟩
  have w1 : IntKind.wrap .i64 ((0 : Int) + 1) = 1 := wr_i64 ⟨by omega, by omega⟩
  have w2 : IntKind.wrap .i64 ((1 : Int) + 1) = 2 := wr_i64 ⟨by omega, by omega⟩
  have e : m_state_Start_L8 F F = m_state_Start_L8 F (m + 3) := by rw [← hm]
  simp only [m_state_Start, e]
  simp only [m_state_Start_L8, w1, w2, show decide ((0 : Int) < 2) = true from rfl, show decide ((1 : Int) < 2) = true from rfl, show decide ((2 : Int) < 2) = false from rfl,
    show ((0 : Int) == 0) = true from rfl, show ((1 : Int) == 0) = false from rfl, show ((1 : Int) == 1) = true from rfl, cond_true, cond_false, Option.bind_some]
  rfl

end Go.Proofs.YthlnellnlhkphaaDoor
