/-
  Which states are the same, and copies, in plain Lean.
-/
import Derived.Test.YtkdbpenjkcjimaaGreatDoorStatePure
namespace Go.Proofs.YtkdbpenjkcjimaaGreatDoor
open Go Go.Proofs.YtkdbpenjkcjimaaGreatDoor.Eng
set_option linter.unusedSimpArgs false
set_option linter.unusedVariables false
set_option maxHeartbeats 1000000

variable {F : Nat}

def plE (p q : T_api_Player) : Bool := (p.X == q.X) && ((p.Y == q.Y) && ((p.VX == q.VX) && ((p.VY == q.VY) && ((p.Health == q.Health) && ((p.Cool == q.Cool) && (p.Face == q.Face))))))
def shE (x y : T_api_Shot) : Bool := (x.X == y.X) && ((x.Y == y.Y) && ((x.VX == y.VX) && ((x.VY == y.VY) && ((x.Owner == y.Owner) && (x.Life == y.Life)))))
def shsE : List T_api_Shot → List T_api_Shot → Bool
  | [], [] => true
  | x :: l, y :: r => shE x y && shsE l r
  | _, _ => false
def stE (a b : T_api_State) : Bool :=
  (a.Frame == b.Frame) && ((a.Seed == b.Seed) && ((plE a.Players.1 b.Players.1 && plE a.Players.2 b.Players.2) && (((a.Score.1 == b.Score.1) && (a.Score.2 == b.Score.2)) && shsE a.Shots b.Shots)))

theorem plE_iff {p q : T_api_Player} : plE p q = true ↔ p = q := by
  simp only [plE, Bool.and_eq_true, beq_iff_eq]
  constructor
  · rintro ⟨h1, h2, h3, h4, h5, h6, h7⟩
    cases p; cases q; simp_all
  · rintro rfl; simp
theorem shE_iff {x y : T_api_Shot} : shE x y = true ↔ x = y := by
  simp only [shE, Bool.and_eq_true, beq_iff_eq]
  constructor
  · rintro ⟨h1, h2, h3, h4, h5, h6⟩
    cases x; cases y; simp_all
  · rintro rfl; simp
theorem shsE_iff : ∀ {l r : List T_api_Shot}, shsE l r = true ↔ l = r
  | [], [] => by simp [shsE]
  | [], y :: r => by simp [shsE]
  | x :: l, [] => by simp [shsE]
  | x :: l, y :: r => by simp [shsE, shE_iff, shsE_iff (l := l) (r := r)]
theorem stE_iff {a b : T_api_State} : stE a b = true ↔ a = b := by
  simp only [stE, Bool.and_eq_true, beq_iff_eq, plE_iff, shsE_iff]
  constructor
  · rintro ⟨h1, h2, ⟨h3, h4⟩, ⟨h5, h6⟩, h7⟩
    obtain ⟨f, d, ⟨p, q⟩, l, ⟨u, v⟩⟩ := a
    obtain ⟨f', d', ⟨p', q'⟩, l', ⟨u', v'⟩⟩ := b
    simp_all
  · rintro rfl; simp
theorem stE_refl (a : T_api_State) : stE a a = true := stE_iff.2 rfl
theorem shsE_len {l r : List T_api_Shot} (h : l.length ≠ r.length) : shsE l r = false := by
  cases hq : shsE l r
  · rfl
  · exact absurd (congrArg List.length (shsE_iff.1 hq)) h




theorem rsame_loop {a b : T_api_State} (hlr : a.Shots.length = b.Shots.length) (hl : a.Shots.length ≤ 1000000) : ∀ (m i : Nat), a.Shots.length - i < m → i ≤ a.Shots.length →
    m_hindcastref08_Same_L14 F a b m (i : Int) = some (if shsE (a.Shots.drop i) (b.Shots.drop i) then .inl false else .inr false)
  | 0, i, hm, _ => by omega
  | m + 1, i, hm, hi => by
    rw [m_hindcastref08_Same_L14.eq_2]
    by_cases h1 : i < a.Shots.length
    · have hx : a.Shots[i]? = some a.Shots[i] := List.getElem?_eq_getElem h1
      have hy : b.Shots[i]? = some b.Shots[i] := List.getElem?_eq_getElem (by omega)
      have hw : IntKind.wrap .i64 ((i : Int) + 1) = ((i + 1 : Nat) : Int) := by rw [wr_i64 ⟨by omega, by omega⟩]; omega
      have ih := rsame_loop hlr hl m (i + 1) (by omega) (by omega)
      have hd : shsE (a.Shots.drop i) (b.Shots.drop i) = (shE a.Shots[i] b.Shots[i] && shsE (a.Shots.drop (i + 1)) (b.Shots.drop (i + 1))) := by
        rw [List.drop_eq_getElem_cons h1, List.drop_eq_getElem_cons (show i < b.Shots.length by omega)]; rfl
      have he : ((a.Shots[i].X == b.Shots[i].X) && ((a.Shots[i].Y == b.Shots[i].Y) && ((a.Shots[i].VX == b.Shots[i].VX) && ((a.Shots[i].VY == b.Shots[i].VY) && ((a.Shots[i].Owner == b.Shots[i].Owner) && (a.Shots[i].Life == b.Shots[i].Life)))))) = shE a.Shots[i] b.Shots[i] := rfl
      simp only [decide_eq_true (show (i : Int) < (a.Shots.length : Int) by omega), cond_true, getI_nat, hx, hy, Option.bind_some, hw, ih, hd, he]
      cases shE a.Shots[i] b.Shots[i] <;> simp
    · simp only [decide_eq_false (show ¬ (i : Int) < (a.Shots.length : Int) by omega), cond_false]
      rw [List.drop_of_length_le (show a.Shots.length ≤ i by omega), List.drop_of_length_le (show b.Shots.length ≤ i by omega)]
      rfl

theorem rsame_of {a b : T_api_State} (hs : a.Shots.length ≤ 1000000) (hF : a.Shots.length < F) : m_hindcastref08_Same F a b = some (stE a b) := by
  have e1 : ((a.Players.1.X == b.Players.1.X) && ((a.Players.1.Y == b.Players.1.Y) && ((a.Players.1.VX == b.Players.1.VX) && ((a.Players.1.VY == b.Players.1.VY) && ((a.Players.1.Health == b.Players.1.Health) && ((a.Players.1.Cool == b.Players.1.Cool) && (a.Players.1.Face == b.Players.1.Face))))))) = plE a.Players.1 b.Players.1 := rfl
  have e2 : ((a.Players.2.X == b.Players.2.X) && ((a.Players.2.Y == b.Players.2.Y) && ((a.Players.2.VX == b.Players.2.VX) && ((a.Players.2.VY == b.Players.2.VY) && ((a.Players.2.Health == b.Players.2.Health) && ((a.Players.2.Cool == b.Players.2.Cool) && (a.Players.2.Face == b.Players.2.Face))))))) = plE a.Players.2 b.Players.2 := rfl
  simp only [m_hindcastref08_Same, e1, e2, or_some, Option.bind_some, bne]
  unfold stE
  by_cases h : a.Shots.length = b.Shots.length
  · have hb : ((a.Shots.length : Int) == (b.Shots.length : Int)) = true := by rw [h]; exact beq_self_eq_true _
    have hlp : m_hindcastref08_Same_L14 F a b F 0 = _ := rsame_loop (F := F) h hs F 0 (by omega) (by omega)
    rw [hb, hlp]
    simp only [List.drop_zero]
    cases a.Frame == b.Frame <;> cases a.Seed == b.Seed <;> cases plE a.Players.1 b.Players.1 <;> cases plE a.Players.2 b.Players.2 <;> cases ((a.Score.1 == b.Score.1) && (a.Score.2 == b.Score.2)) <;> cases shsE a.Shots b.Shots <;> rfl
  · have hb : ((a.Shots.length : Int) == (b.Shots.length : Int)) = false := beq_eq_false_iff_ne.2 (by omega)
    rw [hb, shsE_len h]
    cases a.Frame == b.Frame <;> cases a.Seed == b.Seed <;> cases plE a.Players.1 b.Players.1 <;> cases plE a.Players.2 b.Players.2 <;> cases ((a.Score.1 == b.Score.1) && (a.Score.2 == b.Score.2)) <;> rfl

theorem rcopy_of {s : T_api_State} (hs : s.Shots.length ≤ 1000000) : m_hindcastref08_Copy F s = some s := by
  simp only [m_hindcastref08_Copy]
  rw [appI_of (by simp; omega)]
  rfl

theorem copy_of {s : T_api_State} (hs : s.Shots.length ≤ 1000000) : m_state_Copy F s = some s := by
  simp only [m_state_Copy, m_slices_Clone___api_Shot_api_Shot]
  rw [appI_of (by simp; omega)]
  rfl

theorem start_of {d : Int} (hF : 3 ≤ F) : m_state_Start F d = some ⟨0, d, (⟨8192, 14336, 0, 0, 100, 0, 0⟩, ⟨53248, 14336, 0, 0, 100, 0, 1⟩), [], (0, 0)⟩ := by
  obtain ⟨m, hm⟩ : ∃ m, F = m + 3 := ⟨F - 3, by omega⟩
  have w1 : IntKind.wrap .i64 ((0 : Int) + 1) = 1 := wr_i64 ⟨by omega, by omega⟩
  have w2 : IntKind.wrap .i64 ((1 : Int) + 1) = 2 := wr_i64 ⟨by omega, by omega⟩
  have e : m_state_Start_L8 F F = m_state_Start_L8 F (m + 3) := by rw [← hm]
  simp only [m_state_Start, e]
  simp only [m_state_Start_L8, w1, w2, show decide ((0 : Int) < 2) = true from rfl, show decide ((1 : Int) < 2) = true from rfl, show decide ((2 : Int) < 2) = false from rfl,
    show ((0 : Int) == 0) = true from rfl, show ((1 : Int) == 0) = false from rfl, show ((1 : Int) == 1) = true from rfl, cond_true, cond_false, Option.bind_some]
  rfl

end Go.Proofs.YtkdbpenjkcjimaaGreatDoor
