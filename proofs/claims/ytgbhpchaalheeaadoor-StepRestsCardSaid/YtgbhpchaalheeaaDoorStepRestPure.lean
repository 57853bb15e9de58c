/-
  Chapter 09: without inputs and shots both come to rest, in plain Lean.
-/
import Derived.Test.YtgbhpchaalheeaaDoorStepProg
namespace Go.Proofs.YtgbhpchaalheeaaDoor
open Go Go.Proofs.YtgbhpchaalheeaaDoor.Eng
set_option linter.unusedSimpArgs false
set_option linter.unusedVariables false
set_option maxHeartbeats 1000000

variable {F : Nat}

theorem in0 : dxv 0 = 0 ∧ dyv 0 = 0 ∧ dashv 0 = false ∧ firev 0 = false := by decide +kernel
theorem steer0 (p : T_api_Player) : steerv p 0 = ⟨p.X, p.Y, speedv p.VX 0 false, speedv p.VY 0 false, p.Health, coolv p.Cool, p.Face⟩ := by
  obtain ⟨h1, h2, h3, h4⟩ := in0
  have hd : dashP p 0 = false := by unfold dashP; rw [h3]; rfl
  unfold steerv
  rw [h1, h2, hd]
  simp [turnv]
theorem fire0 (p : T_api_Player) (o : Int) (l : List T_api_Shot) : fireOne p 0 o l = (p, l) := by
  obtain ⟨h1, h2, h3, h4⟩ := in0
  have : fireP p 0 l.length = false := by unfold fireP; rw [h4]; rfl
  unfold fireOne
  rw [this]
  simp

/-- What a frame without inputs makes, if there are no shots. -/
theorem made0 {s : T_api_State} (hs : s.Shots = []) (h1 : 1 ≤ s.Players.1.Health) (h2 : 1 ≤ s.Players.2.Health) :
    madeOf s 0 0 = ⟨IntKind.wrap .u64 (s.Frame + 1), s.Seed, threev (steerv s.Players.1 0) (steerv s.Players.2 0), [], s.Score⟩ := by
  have hfl : flown s 0 0 = ([], threev (steerv s.Players.1 0) (steerv s.Players.2 0), s.Score) := by
    unfold flown
    simp only [fire0, hs, List.foldl_nil]
  have hH1 : (threev (steerv s.Players.1 0) (steerv s.Players.2 0)).1.Health = s.Players.1.Health := by unfold threev; split <;> rfl
  have hH2 : (threev (steerv s.Players.1 0) (steerv s.Players.2 0)).2.Health = s.Players.2.Health := by unfold threev; split <;> rfl
  have hr : revd s.Seed (threev (steerv s.Players.1 0) (steerv s.Players.2 0)) = (s.Seed, threev (steerv s.Players.1 0) (steerv s.Players.2 0)) := by
    have h0 : rev0 s.Seed (threev (steerv s.Players.1 0) (steerv s.Players.2 0)) = (s.Seed, threev (steerv s.Players.1 0) (steerv s.Players.2 0)) := by
      unfold rev0
      rw [if_neg (by rw [hH1]; omega)]
    unfold revd
    rw [h0]
    unfold rev1
    rw [if_neg (by rw [hH2]; omega)]
  unfold madeOf
  rw [hfl]
  simp only [hr]

def gB (b : Int) : Int := if b - b / 8 < 8 then 0 else b - b / 8
def gN : Nat → Int
  | 0 => 1024
  | n + 1 => gB (gN n)
theorem gN60 : gN 60 = 0 := by decide +kernel
theorem gB_in {b : Int} (h : 0 ≤ b ∧ b ≤ 1024) : 0 ≤ gB b ∧ gB b ≤ 1024 := by unfold gB; split <;> omega
theorem gN_in : ∀ n, 0 ≤ gN n ∧ gN n ≤ 1024
  | 0 => by simp [gN]
  | n + 1 => gB_in (gN_in n)
theorem speed_gB {v b : Int} (hb : 0 ≤ b ∧ b ≤ 1024) (h : -b ≤ v ∧ v ≤ b) : -gB b ≤ speedv v 0 false ∧ speedv v 0 false ≤ gB b := by
  have h8 := tdiv8 v
  have hg := gB_in hb
  have hgo : -gB b ≤ goS v 0 ∧ goS v 0 ≤ gB b := by
    unfold goS gB slow
    rw [if_neg (show ¬ ((0 : Int) ≠ 0) by simp)]
    by_cases hv : 0 ≤ v
    · rw [h8.1 hv]
      repeat' split
      all_goals omega
    · rw [h8.2 (by omega)]
      repeat' split
      all_goals omega
  unfold speedv dblS
  simp only [Bool.false_eq_true, if_false]
  omega

/-- What holds behind n frames. -/
structure Rest (s : T_api_State) (n : Nat) (t : T_api_State) : Prop where
  ok : StOk t
  good : stGood t = true
  sh : t.Shots = []
  fr : t.Frame = IntKind.wrap .u64 (s.Frame + (n : Int))
  v1 : -gN n ≤ t.Players.1.VX ∧ t.Players.1.VX ≤ gN n
  w1 : -gN n ≤ t.Players.1.VY ∧ t.Players.1.VY ≤ gN n
  v2 : -gN n ≤ t.Players.2.VX ∧ t.Players.2.VX ≤ gN n
  w2 : -gN n ≤ t.Players.2.VY ∧ t.Players.2.VY ≤ gN n
  h1 : t.Players.1.Health = s.Players.1.Health
  h2 : t.Players.2.Health = s.Players.2.Health
  f1 : t.Players.1.Face = s.Players.1.Face
  f2 : t.Players.2.Face = s.Players.2.Face
  c1 : t.Players.1.Cool + (n : Int) ≤ 30 ∨ t.Players.1.Cool = 0
  c2 : t.Players.2.Cool + (n : Int) ≤ 30 ∨ t.Players.2.Cool = 0

theorem wrap_succ (x : Int) (n : Nat) : IntKind.wrap .u64 (IntKind.wrap .u64 (x + (n : Int)) + 1) = IntKind.wrap .u64 (x + ((n + 1 : Nat) : Int)) := by
  unfold IntKind.wrap
  simp [IntKind.bits, IntKind.signed]
  omega

theorem three_parts {p q : T_api_Player} : (threev p q).1.Health = p.Health ∧ (threev p q).2.Health = q.Health ∧ (threev p q).1.Face = p.Face ∧ (threev p q).2.Face = q.Face ∧ (threev p q).1.Cool = p.Cool ∧ (threev p q).2.Cool = q.Cool := by
  unfold threev; split <;> exact ⟨rfl, rfl, rfl, rfl, rfl, rfl⟩
theorem move_v {x v hi b : Int} (hb : 0 ≤ b) (h : -b ≤ v ∧ v ≤ b) : -b ≤ (movev x v hi).2 ∧ (movev x v hi).2 ≤ b := by
  unfold movev; repeat' split
  all_goals simp only
  all_goals omega
theorem three_v {p q : T_api_Player} {b : Int} (hb : 0 ≤ b) (h1 : -b ≤ p.VX ∧ p.VX ≤ b) (h2 : -b ≤ p.VY ∧ p.VY ≤ b) (h3 : -b ≤ q.VX ∧ q.VX ≤ b) (h4 : -b ≤ q.VY ∧ q.VY ≤ b) :
    (-b ≤ (threev p q).1.VX ∧ (threev p q).1.VX ≤ b) ∧ (-b ≤ (threev p q).1.VY ∧ (threev p q).1.VY ≤ b) ∧ (-b ≤ (threev p q).2.VX ∧ (threev p q).2.VX ≤ b) ∧ (-b ≤ (threev p q).2.VY ∧ (threev p q).2.VY ≤ b) := by
  unfold threev; split
  · simp only [stopv]; omega
  · exact ⟨move_v hb h1, move_v hb h2, move_v hb h3, move_v hb h4⟩

theorem rest_step {s t : T_api_State} {n : Nat} (h : Rest s n t) : Rest s (n + 1) (stepv t 0 0) := by
  obtain ⟨⟨p1, q1⟩, ⟨p2, q2⟩, _, _⟩ := st_parts h.ok h.good
  have e : stepv t 0 0 = madeOf t 0 0 := by unfold stepv; rw [if_pos ⟨h.good, by omega, by omega⟩]
  have hm := made0 h.sh q1 q2
  obtain ⟨m1, m2⟩ := made_ok (i := 0) (j := 0) h.ok h.good
  have gn := gN_in n
  have s1 := speed_gB gn h.v1
  have s2 := speed_gB gn h.w1
  have s3 := speed_gB gn h.v2
  have s4 := speed_gB gn h.w2
  have gb := gB_in gn
  obtain ⟨a1, a2, a3, a4⟩ := three_v (p := steerv t.Players.1 0) (q := steerv t.Players.2 0) gb.1 (by rw [steer0]; exact s1) (by rw [steer0]; exact s2) (by rw [steer0]; exact s3) (by rw [steer0]; exact s4)
  obtain ⟨b1, b2, b3, b4, b5, b6⟩ := three_parts (p := steerv t.Players.1 0) (q := steerv t.Players.2 0)
  have c1 := h.c1
  have c2 := h.c2
  have k1 := p1.C
  have k2 := p2.C
  rw [e]
  refine ⟨m1, m2, ?_, ?_, ?_, ?_, ?_, ?_, ?_, ?_, ?_, ?_, ?_, ?_⟩ <;> rw [hm]
  · simp only [h.fr]
    exact wrap_succ _ _
  · exact a1
  · exact a2
  · exact a3
  · exact a4
  · exact b1.trans (by rw [steer0]; exact h.h1)
  · exact b2.trans (by rw [steer0]; exact h.h2)
  · exact b3.trans (by rw [steer0]; exact h.f1)
  · exact b4.trans (by rw [steer0]; exact h.f2)
  · have e5 : (threev (steerv t.Players.1 0) (steerv t.Players.2 0)).1.Cool = coolv t.Players.1.Cool := b5.trans (by rw [steer0])
    show (threev (steerv t.Players.1 0) (steerv t.Players.2 0)).1.Cool + _ ≤ 30 ∨ (threev (steerv t.Players.1 0) (steerv t.Players.2 0)).1.Cool = 0
    rw [e5]; unfold coolv; omega
  · have e6 : (threev (steerv t.Players.1 0) (steerv t.Players.2 0)).2.Cool = coolv t.Players.2.Cool := b6.trans (by rw [steer0])
    show (threev (steerv t.Players.1 0) (steerv t.Players.2 0)).2.Cool + _ ≤ 30 ∨ (threev (steerv t.Players.1 0) (steerv t.Players.2 0)).2.Cool = 0
    rw [e6]; unfold coolv; omega

theorem rest_still {p : T_api_Player} (h : PG p) (h1 : p.VX = 0) (h2 : p.VY = 0) (h3 : p.Cool = 0) : steerv p 0 = p ∧ movedv p = p ∧ stopv p = p := by
  have hx := h.X
  have hy := h.Y
  have hs : speedv 0 0 false = 0 := by decide
  obtain ⟨x, y, vx, vy, hh, c, f⟩ := p
  simp only at h1 h2 h3 hx hy
  subst h1; subst h2; subst h3
  refine ⟨?_, ?_, rfl⟩
  · rw [steer0]
    simp only [hs]
    rfl
  · have m1 : movev x 0 61440 = (x, 0) := by unfold movev; rw [if_neg (by omega), if_neg (by omega)]; simp
    have m2 : movev y 0 28672 = (y, 0) := by unfold movev; rw [if_neg (by omega), if_neg (by omega)]; simp
    simp only [movedv, m1, m2]
theorem rest_end {s t : T_api_State} (h : Rest s 60 t) : (t.Players.1.VX = 0 ∧ t.Players.1.VY = 0 ∧ t.Players.1.Cool = 0) ∧ (t.Players.2.VX = 0 ∧ t.Players.2.VY = 0 ∧ t.Players.2.Cool = 0) ∧ (stepv t 0 0).Players = t.Players := by
  obtain ⟨⟨p1, q1⟩, ⟨p2, q2⟩, _, _⟩ := st_parts h.ok h.good
  have e : stepv t 0 0 = madeOf t 0 0 := by unfold stepv; rw [if_pos ⟨h.good, by omega, by omega⟩]
  have hm := made0 h.sh q1 q2
  have v1 := h.v1; have w1 := h.w1; have v2 := h.v2; have w2 := h.w2
  rw [gN60] at v1 w1 v2 w2
  have c1 := h.c1; have c2 := h.c2
  have k1 := p1.C; have k2 := p2.C
  have r1 : t.Players.1.VX = 0 ∧ t.Players.1.VY = 0 ∧ t.Players.1.Cool = 0 := ⟨by omega, by omega, by omega⟩
  have r2 : t.Players.2.VX = 0 ∧ t.Players.2.VY = 0 ∧ t.Players.2.Cool = 0 := ⟨by omega, by omega, by omega⟩
  refine ⟨r1, r2, ?_⟩
  obtain ⟨a1, a2, a3⟩ := rest_still p1 r1.1 r1.2.1 r1.2.2
  obtain ⟨b1, b2, b3⟩ := rest_still p2 r2.1 r2.2.1 r2.2.2
  rw [e, hm]
  simp only [a1, b1]
  unfold threev
  split
  · rw [a3, b3]
  · rw [a2, b2]

end Go.Proofs.YtgbhpchaalheeaaDoor
