/-
  Which states are the same, and copies, in plain Lean.
-/
import Derived.Test.YtkekgagekgadmaaDoorStatePure
namespace Go.Proofs.YtkekgagekgadmaaDoor
open Go Go.Proofs.YtkekgagekgadmaaDoor.Eng
set_option linter.unusedSimpArgs false
set_option linter.unusedVariables false
set_option maxHeartbeats 1000000

variable {F : Nat}

def plE (p q : T_api_Player) : Bool := (p.X == q.X) && ((p.Y == q.Y) && ((p.VX == q.VX) && ((p.VY == q.VY) && ((p.Health == q.Health) && ((p.Cool == q.Cool) && (p.Face == q.Face))))))
def shE (x y : T_api_Shot) : Bool := (x.X == y.X) && ((x.Y == y.Y) && ((x.VX == y.VX) && ((x.VY == y.VY) && ((x.Owner == y.Owner) && (x.Life == y.Life)))))
def shsE : List T_api_Shot → List T_api_Shot → Bool
  | [], [] => true
  | x :: l, y :: r => shE x y && shsE l r
  | _, _ => false
def stE (a b : T_api_State) : Bool :=
  (a.Frame == b.Frame) && ((a.Seed == b.Seed) && ((plE a.Players.1 b.Players.1 && plE a.Players.2 b.Players.2) && (((a.Score.1 == b.Score.1) && (a.Score.2 == b.Score.2)) && shsE a.Shots b.Shots)))

theorem plE_iff {p q : T_api_Player} : plE p q = true ↔ p = q := by
  simp only [plE, Bool.and_eq_true, beq_iff_eq]
  constructor
  · rintro ⟨h1, h2, h3, h4, h5, h6, h7⟩
    cases p; cases q; simp_all
  · rintro rfl; simp
theorem shE_iff {x y : T_api_Shot} : shE x y = true ↔ x = y := by
  simp only [shE, Bool.and_eq_true, beq_iff_eq]
  constructor
  · rintro ⟨h1, h2, h3, h4, h5, h6⟩
    cases x; cases y; simp_all
  · rintro rfl; simp
theorem shsE_iff : ∀ {l r : List T_api_Shot}, shsE l r = true ↔ l = r
  | [], [] => by simp [shsE]
  | [], y :: r => by simp [shsE]
  | x :: l, [] => by simp [shsE]
  | x :: l, y :: r => by simp [shsE, shE_iff, shsE_iff (l := l) (r := r)]
theorem stE_iff {a b : T_api_State} : stE a b = true ↔ a = b := by
  simp only [stE, Bool.and_eq_true, beq_iff_eq, plE_iff, shsE_iff]
  constructor
  · rintro ⟨h1, h2, ⟨h3, h4⟩, ⟨h5, h6⟩, h7⟩
    obtain ⟨f, d, ⟨p, q⟩, l, ⟨u, v⟩⟩ := a
    obtain ⟨f', d', ⟨p', q'⟩, l', ⟨u', v'⟩⟩ := b
    simp_all
  · rintro rfl; simp
theorem stE_refl (a : T_api_State) : stE a a = true := stE_iff.2 rfl
theorem shsE_len {l r : List T_api_Shot} (h : l.length ≠ r.length) : shsE l r = false := by
  cases hq : shsE l r
  · rfl
  · exact absurd (congrArg List.length (shsE_iff.1 hq)) h

theorem equal_loop {l r : List T_api_Shot} (hlr : l.length = r.length) (hl : l.length ≤ 1000000) : ∀ (m i : Nat), l.length - i < m → i ≤ l.length →
    m_slices_Equal___api_Shot_api_Shot_L14 F l r m (i : Int) = some (if shsE (l.drop i) (r.drop i) then .inl false else .inr false)
  | 0, i, hm, _ => by omega
  | m + 1, i, hm, hi => by
    rw [m_slices_Equal___api_Shot_api_Shot_L14.eq_2]
    by_cases h1 : i < l.length
    · have hx : l[i]? = some l[i] := List.getElem?_eq_getElem h1
      have hy : r[i]? = some r[i] := List.getElem?_eq_getElem (by omega)
      have hw : IntKind.wrap .i64 ((i : Int) + 1) = ((i + 1 : Nat) : Int) := by rw [wr_i64 ⟨by omega, by omega⟩]; omega
      have ih := equal_loop hlr hl m (i + 1) (by omega) (by omega)
      have hd : shsE (l.drop i) (r.drop i) = (shE l[i] r[i] && shsE (l.drop (i + 1)) (r.drop (i + 1))) := by
        rw [List.drop_eq_getElem_cons h1, List.drop_eq_getElem_cons (show i < r.length by omega)]; rfl
      have he : ((l[i].X == r[i].X) && ((l[i].Y == r[i].Y) && ((l[i].VX == r[i].VX) && ((l[i].VY == r[i].VY) && ((l[i].Owner == r[i].Owner) && (l[i].Life == r[i].Life)))))) = shE l[i] r[i] := rfl
      simp only [decide_eq_true (show (i : Int) < (l.length : Int) by omega), cond_true, getI_nat, hx, hy, Option.bind_some, hw, ih, hd, he]
      cases shE l[i] r[i] <;> simp
    · simp only [decide_eq_false (show ¬ (i : Int) < (l.length : Int) by omega), cond_false]
      rw [List.drop_of_length_le (show l.length ≤ i by omega), List.drop_of_length_le (show r.length ≤ i by omega)]
      rfl

theorem equal_of {l r : List T_api_Shot} (hl : l.length ≤ 1000000) (hF : l.length < F) : m_slices_Equal___api_Shot_api_Shot F l r = some (shsE l r) := by
  simp only [m_slices_Equal___api_Shot_api_Shot]
  by_cases h : l.length = r.length
  · have hb : ((l.length : Int) != (r.length : Int)) = false := by rw [h]; exact bne_self_eq_false _
    have hlp : m_slices_Equal___api_Shot_api_Shot_L14 F l r F 0 = _ := equal_loop (F := F) h hl F 0 (by omega) (by omega)
    rw [hb, cond_false, hlp]
    simp only [List.drop_zero]
    cases shsE l r <;> rfl
  · have hb : ((l.length : Int) != (r.length : Int)) = true := bne_iff_ne.2 (by omega)
    rw [hb, cond_true, shsE_len h]

theorem same_of {a b : T_api_State} (hs : a.Shots.length ≤ 1000000) (hF : a.Shots.length < F) : m_state_Same F a b = some (stE a b) := by
  simp only [m_state_Same, equal_of (F := F) (r := b.Shots) hs hF, and_some, Option.bind_some]
  unfold stE plE
  simp only [Bool.and_assoc]




theorem copy_of {s : T_api_State} (hs : s.Shots.length ≤ 1000000) : m_state_Copy F s = some s := by
  simp only [m_state_Copy, m_slices_Clone___api_Shot_api_Shot]
  rw [appI_of (by simp; omega)]
  rfl

theorem start_of {d : Int} (hF : 3 ≤ F) : m_state_Start F d = some ⟨0, d, (⟨8192, 14336, 0, 0, 100, 0, 0⟩, ⟨53248, 14336, 0, 0, 100, 0, 1⟩), [], (0, 0)⟩ := by
  obtain ⟨m, hm⟩ : ∃ m, F = m + 3 := ⟨F - 3, by omega⟩
  have w1 : IntKind.wrap .i64 ((0 : Int) + 1) = 1 := wr_i64 ⟨by omega, by omega⟩
  have w2 : IntKind.wrap .i64 ((1 : Int) + 1) = 2 := wr_i64 ⟨by omega, by omega⟩
  have e : m_state_Start_L8 F F = m_state_Start_L8 F (m + 3) := by rw [← hm]
  simp only [m_state_Start, e]
  simp only [m_state_Start_L8, w1, w2, show decide ((0 : Int) < 2) = true from rfl, show decide ((1 : Int) < 2) = true from rfl, show decide ((2 : Int) < 2) = false from rfl,
    show ((0 : Int) == 0) = true from rfl, show ((1 : Int) == 0) = false from rfl, show ((1 : Int) == 1) = true from rfl, cond_true, cond_false, Option.bind_some]
  rfl

end Go.Proofs.YtkekgagekgadmaaDoor
