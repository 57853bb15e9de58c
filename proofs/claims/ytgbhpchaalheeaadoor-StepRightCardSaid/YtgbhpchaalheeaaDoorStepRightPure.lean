/-
  Chapter 09: what a frame keeps, in plain Lean.
-/
import Derived.Test.YtgbhpchaalheeaaDoorStepProg
namespace Go.Proofs.YtgbhpchaalheeaaDoor
open Go Go.Proofs.YtgbhpchaalheeaaDoor.Eng
set_option linter.unusedSimpArgs false
set_option linter.unusedVariables false
set_option maxHeartbeats 1000000

variable {F : Nat}

theorem over_congr {p q p' q' : T_api_Player} (h1 : p'.X = p.X) (h2 : p'.Y = p.Y) (h3 : q'.X = q.X) (h4 : q'.Y = q.Y) : overP p' q' = overP p q := by
  unfold overP; rw [h1, h2, h3, h4]
theorem over_symm {p q : T_api_Player} : overP p q = overP q p := by
  unfold overP overB
  rw [Bool.eq_iff_iff]
  simp only [Bool.and_eq_true, decide_eq_true_eq]
  omega

/-- What shots do not change, and what they do. -/
structure Fly (c c' : FlySt) : Prop where
  x1 : c'.2.1.1.X = c.2.1.1.X
  y1 : c'.2.1.1.Y = c.2.1.1.Y
  x2 : c'.2.1.2.X = c.2.1.2.X
  y2 : c'.2.1.2.Y = c.2.1.2.Y
  s1 : c.2.2.1 ≤ c'.2.2.1
  s2 : c.2.2.2 ≤ c'.2.2.2
theorem fly_one {c : FlySt} {x : T_api_Shot} (h1 : c.2.2.1 ≤ 65535) (h2 : c.2.2.2 ≤ 65535) : Fly c (flyOne c x) := by
  unfold flyOne
  repeat' split
  all_goals exact ⟨rfl, rfl, rfl, rfl, by first | omega | (simp only [scored]; omega), by first | omega | (simp only [scored]; omega)⟩
theorem fly_all : ∀ {l : List T_api_Shot} {c : FlySt} {n : Nat}, FG c n → (∀ x ∈ l, SG x) → Fly c (l.foldl flyOne c)
  | [], c, n, h, _ => ⟨rfl, rfl, rfl, rfl, Int.le_refl _, Int.le_refl _⟩
  | x :: l, c, n, h, hl => by
    have a := fly_one (x := x) h.S1.2 h.S2.2
    have b := fly_all (l := l) (fly_fg h (hl x (by simp))) (fun y hy => hl y (by simp [hy]))
    rw [List.foldl_cons]
    exact ⟨b.x1.trans a.x1, b.y1.trans a.y1, b.x2.trans a.x2, b.y2.trans a.y2, Int.le_trans a.s1 b.s1, Int.le_trans a.s2 b.s2⟩

theorem fireOne_xy {p : T_api_Player} {i o : Int} {l : List T_api_Shot} : (fireOne p i o l).1.X = p.X ∧ (fireOne p i o l).1.Y = p.Y ∧ (fireOne p i o l).1.VX = p.VX ∧ (fireOne p i o l).1.VY = p.VY := by
  unfold fireOne; split <;> exact ⟨rfl, rfl, rfl, rfl⟩

def nearBy (a b : Int) : Prop := -1024 ≤ b - a ∧ b - a ≤ 1024
theorem three_keep {p q : T_api_Player} (hp : PG p) (hq : PG q) : nearBy p.X (threev p q).1.X ∧ nearBy p.Y (threev p q).1.Y ∧ nearBy q.X (threev p q).2.X ∧ nearBy q.Y (threev p q).2.Y ∧
    (overP p q = false → overP (threev p q).1 (threev p q).2 = false) := by
  unfold threev; split
  · refine ⟨?_, ?_, ?_, ?_, fun h => ?_⟩
    · unfold nearBy; simp [stopv]
    · unfold nearBy; simp [stopv]
    · unfold nearBy; simp [stopv]
    · unfold nearBy; simp [stopv]
    · rw [← h]; exact over_congr rfl rfl rfl rfl
  · rename_i ho
    exact ⟨(movev_in hp.X hp.VX).2.2, (movev_in hp.Y hp.VY).2.2, (movev_in hq.X hq.VX).2.2, (movev_in hq.Y hq.VY).2.2, fun _ => by
      cases h : overP (movedv p) (movedv q)
      · rfl
      · exact absurd h ho⟩

theorem flown_keep {s : T_api_State} {i j : Int} (h : StOk s) (hg : stGood s = true) :
    nearBy s.Players.1.X (flown s i j).2.1.1.X ∧ nearBy s.Players.1.Y (flown s i j).2.1.1.Y ∧ nearBy s.Players.2.X (flown s i j).2.1.2.X ∧ nearBy s.Players.2.Y (flown s i j).2.1.2.Y ∧
    (overP s.Players.1 s.Players.2 = false → overP (flown s i j).2.1.1 (flown s i j).2.1.2 = false) ∧ s.Score.1 ≤ (flown s i j).2.2.1 ∧ s.Score.2 ≤ (flown s i j).2.2.2 := by
  obtain ⟨⟨p1, _⟩, ⟨p2, _⟩, hs, h8⟩ := st_parts h hg
  obtain ⟨a1, a2, a3, a4, a5⟩ := fireOne_ok (i := i) (o := 0) (steer_pg (i := i) p1) (.inl rfl) hs h8
  obtain ⟨b1, b2, b3, b4, b5⟩ := fireOne_ok (i := j) (o := 1) (steer_pg (i := j) p2) (.inr rfl) a3 a4
  obtain ⟨t1, t2⟩ := three_pg a1 b1
  obtain ⟨k1, k2, k3, k4, k5⟩ := three_keep a1 b1
  have hf := fly_all (c := ([], threev (fireOne (steerv s.Players.1 i) i 0 s.Shots).1 (fireOne (steerv s.Players.2 j) j 1 (fireOne (steerv s.Players.1 i) i 0 s.Shots).2).1, s.Score)) (n := 0) ⟨t1, t2, by simp, by simp, h.Sc1, h.Sc2⟩ b3
  obtain ⟨x1, x2, _, _⟩ := fireOne_xy (p := steerv s.Players.1 i) (i := i) (o := 0) (l := s.Shots)
  obtain ⟨y1, y2, _, _⟩ := fireOne_xy (p := steerv s.Players.2 j) (i := j) (o := 1) (l := (fireOne (steerv s.Players.1 i) i 0 s.Shots).2)
  have hfl : (fireOne (steerv s.Players.2 j) j 1 (fireOne (steerv s.Players.1 i) i 0 s.Shots).2).2.foldl flyOne ([], threev (fireOne (steerv s.Players.1 i) i 0 s.Shots).1 (fireOne (steerv s.Players.2 j) j 1 (fireOne (steerv s.Players.1 i) i 0 s.Shots).2).1, s.Score) = flown s i j := rfl
  rw [hfl] at hf
  rw [x1] at k1; rw [x2] at k2; rw [y1] at k3; rw [y2] at k4
  refine ⟨by rw [hf.x1]; exact k1, by rw [hf.y1]; exact k2, by rw [hf.x2]; exact k3, by rw [hf.y2]; exact k4, fun ho => ?_, hf.s1, hf.s2⟩
  rw [over_congr hf.x1 hf.y1 hf.x2 hf.y2]
  refine k5 ?_
  rw [← ho]
  exact over_congr x1 x2 y1 y2

theorem next2 {d : Int} (h : 0 ≤ d ∧ d ≤ 18446744073709551615) : nextS (nextS d) ≠ d ∧ nextS (nextS (nextS (nextS d))) ≠ d := by
  have e : ∀ x, nextS x = (x + 11400714819323198485) % 18446744073709551616 := fun x => by
    unfold nextS IntKind.wrap; simp [IntKind.bits, IntKind.signed]
  simp only [e]
  constructor <;> omega

theorem rev_keep {d : Int} {r : T_api_Player × T_api_Player} (hd : 0 ≤ d ∧ d ≤ 18446744073709551615) :
    (((revd d r).2.1.X = r.1.X ∧ (revd d r).2.1.Y = r.1.Y) ∨ ((revd d r).1 ≠ d ∧ (revd d r).2.1.Health = 100)) ∧
    (((revd d r).2.2.X = r.2.X ∧ (revd d r).2.2.Y = r.2.Y) ∨ ((revd d r).1 ≠ d ∧ (revd d r).2.2.Health = 100)) ∧
    (overP r.1 r.2 = false → overP (revd d r).2.1 (revd d r).2.2 = false) := by
  have bk : ∀ (p q : T_api_Player) (e : Int), (backv p q e).Health = 100 ∧ (overP p q = false → overP (backv p q e) q = false) := by
    intro p q e
    unfold backv; split
    · exact ⟨rfl, fun h => by rw [← h]; exact over_congr rfl rfl rfl rfl⟩
    · rename_i ho
      refine ⟨rfl, fun _ => ?_⟩
      cases h : overP (there p e) q
      · rfl
      · exact absurd h ho
  obtain ⟨n2, n4⟩ := next2 hd
  unfold revd
  by_cases h1 : r.1.Health = 0
  · have e0 : rev0 d r = (nextS (nextS d), (backv r.1 r.2 d, r.2)) := by unfold rev0; rw [if_pos h1]
    rw [e0]
    by_cases h2 : r.2.Health = 0
    · have e1 : rev1 (nextS (nextS d)) (backv r.1 r.2 d, r.2) = (nextS (nextS (nextS (nextS d))), (backv r.1 r.2 d, backv r.2 (backv r.1 r.2 d) (nextS (nextS d)))) := by unfold rev1; rw [if_pos h2]
      rw [e1]
      refine ⟨.inr ⟨n4, (bk _ _ _).1⟩, .inr ⟨n4, (bk _ _ _).1⟩, fun ho => ?_⟩
      rw [over_symm]
      refine (bk _ _ _).2 ?_
      rw [over_symm]
      exact (bk _ _ _).2 ho
    · have e1 : rev1 (nextS (nextS d)) (backv r.1 r.2 d, r.2) = (nextS (nextS d), (backv r.1 r.2 d, r.2)) := by unfold rev1; rw [if_neg h2]
      rw [e1]
      exact ⟨.inr ⟨n2, (bk _ _ _).1⟩, .inl ⟨rfl, rfl⟩, fun ho => (bk _ _ _).2 ho⟩
  · have e0 : rev0 d r = (d, r) := by unfold rev0; rw [if_neg h1]
    rw [e0]
    by_cases h2 : r.2.Health = 0
    · have e1 : rev1 d r = (nextS (nextS d), (r.1, backv r.2 r.1 d)) := by unfold rev1; rw [if_pos h2]
      rw [e1]
      refine ⟨.inl ⟨rfl, rfl⟩, .inr ⟨n2, (bk _ _ _).1⟩, fun ho => ?_⟩
      rw [over_symm]
      refine (bk _ _ _).2 ?_
      rw [over_symm]
      exact ho
    · have e1 : rev1 d r = (d, r) := by unfold rev1; rw [if_neg h2]
      rw [e1]
      exact ⟨.inl ⟨rfl, rfl⟩, .inl ⟨rfl, rfl⟩, fun ho => ho⟩

/-- What a frame keeps. -/
theorem made_keep {s : T_api_State} {i j : Int} (h : StOk s) (hg : stGood s = true) :
    ((nearBy s.Players.1.X (madeOf s i j).Players.1.X ∧ nearBy s.Players.1.Y (madeOf s i j).Players.1.Y) ∨ ((madeOf s i j).Seed ≠ s.Seed ∧ (madeOf s i j).Players.1.Health = 100)) ∧
    ((nearBy s.Players.2.X (madeOf s i j).Players.2.X ∧ nearBy s.Players.2.Y (madeOf s i j).Players.2.Y) ∨ ((madeOf s i j).Seed ≠ s.Seed ∧ (madeOf s i j).Players.2.Health = 100)) ∧
    (overP s.Players.1 s.Players.2 = false → overP (madeOf s i j).Players.1 (madeOf s i j).Players.2 = false) ∧ s.Score.1 ≤ (madeOf s i j).Score.1 ∧ s.Score.2 ≤ (madeOf s i j).Score.2 ∧ (madeOf s i j).Shots.length ≤ s.Shots.length + 2 := by
  obtain ⟨k1, k2, k3, k4, k5, k6, k7⟩ := flown_keep (i := i) (j := j) h hg
  obtain ⟨r1, r2, r3⟩ := rev_keep (r := (flown s i j).2.1) h.Seed
  have hl := (flown_ok (i := i) (j := j) h hg).2
  refine ⟨?_, ?_, fun ho => r3 (k5 ho), k6, k7, hl⟩
  · rcases r1 with ⟨e1, e2⟩ | e
    · left
      have e1' : (madeOf s i j).Players.1.X = (flown s i j).2.1.1.X := e1
      have e2' : (madeOf s i j).Players.1.Y = (flown s i j).2.1.1.Y := e2
      rw [e1', e2']; exact ⟨k1, k2⟩
    · exact .inr e
  · rcases r2 with ⟨e1, e2⟩ | e
    · left
      have e1' : (madeOf s i j).Players.2.X = (flown s i j).2.1.2.X := e1
      have e2' : (madeOf s i j).Players.2.Y = (flown s i j).2.1.2.Y := e2
      rw [e1', e2']; exact ⟨k3, k4⟩
    · exact .inr e

end Go.Proofs.YtgbhpchaalheeaaDoor
