/-
  What a frame makes of a state, in plain Lean: its definition, and that the program's step is it.
-/
import Derived.Test.YtkdbpenjkcjimaaGreatDoorStateEq
namespace Go.Proofs.YtkdbpenjkcjimaaGreatDoor
open Go Go.Proofs.YtkdbpenjkcjimaaGreatDoor.Eng
set_option linter.unusedSimpArgs false
set_option linter.unusedVariables false
set_option maxHeartbeats 1000000

variable {F : Nat}

/-! ### The parts -/
def wayv (i a b : Int) : Int := if bits .and .u8 i (bits .or .u8 a b) = a then -1 else if bits .and .u8 i (bits .or .u8 a b) = b then 1 else 0
def dxv (i : Int) : Int := wayv i 1 2
def dyv (i : Int) : Int := wayv i 4 8
def dashv (i : Int) : Bool := bits .and .u8 i 32 != 0
def firev (i : Int) : Bool := bits .and .u8 i 16 != 0
def turnv (face dx dy : Int) : Int := if 0 < dx then 0 else if dx < 0 then 1 else if dy < 0 then 2 else if 0 < dy then 3 else face
def slow (v : Int) : Int := v - Int.tdiv v 8
def goS (v d : Int) : Int := if d ≠ 0 then v + 64 * d else if -8 < slow v ∧ slow v < 8 then 0 else slow v
def dblS (dash : Bool) (v : Int) : Int := if dash then v * 2 else v
def speedv (v d : Int) (dash : Bool) : Int := max (-1024) (min (dblS dash (goS v d)) 1024)
def coolv (c : Int) : Int := c - min c 1
def dashP (p : T_api_Player) (i : Int) : Bool := dashv i && (coolv p.Cool == 0)
def steerv (p : T_api_Player) (i : Int) : T_api_Player :=
  ⟨p.X, p.Y, speedv p.VX (dxv i) (dashP p i), speedv p.VY (dyv i) (dashP p i), p.Health, if dashP p i then 30 else coolv p.Cool, turnv p.Face (dxv i) (dyv i)⟩
def fireP (p : T_api_Player) (i : Int) (n : Nat) : Bool := (firev i && (p.Cool == 0)) && decide (n < 8)
def shotV (f : Int) : Int × Int := if f = 0 then (2048, 0) else if f = 1 then (-2048, 0) else if f = 2 then (0, -2048) else (0, 2048)
def shootv (p : T_api_Player) (o : Int) : T_api_Shot := ⟨p.X + 1792, p.Y + 1792, (shotV p.Face).1, (shotV p.Face).2, o, 40⟩
def fired (p : T_api_Player) : T_api_Player := ⟨p.X, p.Y, p.VX, p.VY, p.Health, 10, p.Face⟩
def fireOne (p : T_api_Player) (i o : Int) (l : List T_api_Shot) : T_api_Player × List T_api_Shot := if fireP p i l.length then (fired p, l ++ [shootv p o]) else (p, l)
def movev (x v hi : Int) : Int × Int := if x + v < 0 then (0, 0) else if hi < x + v then (hi, 0) else (x + v, v)
def movedv (p : T_api_Player) : T_api_Player := ⟨(movev p.X p.VX 61440).1, (movev p.Y p.VY 28672).1, (movev p.X p.VX 61440).2, (movev p.Y p.VY 28672).2, p.Health, p.Cool, p.Face⟩
def stopv (p : T_api_Player) : T_api_Player := ⟨p.X, p.Y, 0, 0, p.Health, p.Cool, p.Face⟩
def overB (x y w h x' y' w' h' : Int) : Bool := decide (max x x' < min (x + w) (x' + w')) && decide (max y y' < min (y + h) (y' + h'))
def overP (p q : T_api_Player) : Bool := overB p.X p.Y 4096 4096 q.X q.Y 4096 4096
def threev (p q : T_api_Player) : T_api_Player × T_api_Player := if overP (movedv p) (movedv q) then (stopv p, stopv q) else (movedv p, movedv q)
def nextSh (x : T_api_Shot) : T_api_Shot := ⟨x.X + x.VX, x.Y + x.VY, x.VX, x.VY, x.Owner, x.Life - 1⟩
def insS (y : T_api_Shot) : Bool := decide (0 ≤ y.X ∧ y.X + 512 ≤ 65536 ∧ 0 ≤ y.Y ∧ y.Y + 512 ≤ 32768)
def hitS (y : T_api_Shot) (p : T_api_Player) : Bool := overB y.X y.Y 512 512 p.X p.Y 4096 4096
def hurtv (p : T_api_Player) : T_api_Player := ⟨p.X, p.Y, p.VX, p.VY, p.Health - min p.Health 10, p.Cool, p.Face⟩
def scored (n : Int) : Int := min n 65534 + 1
abbrev FlySt := List T_api_Shot × (T_api_Player × T_api_Player) × (Int × Int)
def flyOne (c : FlySt) (x : T_api_Shot) : FlySt :=
  if insS (nextSh x) then
    if x.Owner = 0 then
      if hitS (nextSh x) c.2.1.2 then (c.1, (c.2.1.1, hurtv c.2.1.2), (scored c.2.2.1, c.2.2.2))
      else if 0 < x.Life - 1 then (c.1 ++ [nextSh x], c.2.1, c.2.2) else c
    else
      if hitS (nextSh x) c.2.1.1 then (c.1, (hurtv c.2.1.1, c.2.1.2), (c.2.2.1, scored c.2.2.2))
      else if 0 < x.Life - 1 then (c.1 ++ [nextSh x], c.2.1, c.2.2) else c
  else c
def mixN (z : Int) : Int := (m_rng_Mix 0 z).getD 0
def nextS (d : Int) : Int := IntKind.wrap .u64 (d + 11400714819323198485)
def belowN (d n : Int) : Int := mixN (nextS d) / 4294967296 * n / 4294967296
def there (p : T_api_Player) (d : Int) : T_api_Player := ⟨belowN d 61441, belowN (nextS d) 28673, 0, 0, 100, p.Cool, p.Face⟩
def here (p : T_api_Player) : T_api_Player := ⟨p.X, p.Y, 0, 0, 100, p.Cool, p.Face⟩
def backv (p q : T_api_Player) (d : Int) : T_api_Player := if overP (there p d) q then here p else there p d
def rev0 (d : Int) (r : T_api_Player × T_api_Player) : Int × (T_api_Player × T_api_Player) := if r.1.Health = 0 then (nextS (nextS d), (backv r.1 r.2 d, r.2)) else (d, r)
def rev1 (d : Int) (r : T_api_Player × T_api_Player) : Int × (T_api_Player × T_api_Player) := if r.2.Health = 0 then (nextS (nextS d), (r.1, backv r.2 r.1 d)) else (d, r)
def flown (s : T_api_State) (i j : Int) : FlySt :=
  (fireOne (steerv s.Players.2 j) j 1 (fireOne (steerv s.Players.1 i) i 0 s.Shots).2).2.foldl flyOne
    ([], threev (fireOne (steerv s.Players.1 i) i 0 s.Shots).1 (fireOne (steerv s.Players.2 j) j 1 (fireOne (steerv s.Players.1 i) i 0 s.Shots).2).1, s.Score)
def revd (d : Int) (r : T_api_Player × T_api_Player) : Int × (T_api_Player × T_api_Player) := rev1 (rev0 d r).1 (rev0 d r).2
def madeOf (s : T_api_State) (i j : Int) : T_api_State :=
  ⟨IntKind.wrap .u64 (s.Frame + 1), (revd s.Seed (flown s i j).2.1).1, (revd s.Seed (flown s i j).2.1).2, (flown s i j).1, (flown s i j).2.2⟩
def stepv (s : T_api_State) (i j : Int) : T_api_State := if stGood s = true ∧ i < 64 ∧ j < 64 then madeOf s i j else s

/-! ### What is kept -/
structure PG (p : T_api_Player) : Prop where
  X : 0 ≤ p.X ∧ p.X ≤ 61440
  Y : 0 ≤ p.Y ∧ p.Y ≤ 28672
  VX : -1024 ≤ p.VX ∧ p.VX ≤ 1024
  VY : -1024 ≤ p.VY ∧ p.VY ≤ 1024
  H : 0 ≤ p.Health ∧ p.Health ≤ 100
  C : 0 ≤ p.Cool ∧ p.Cool ≤ 30
  A : 0 ≤ p.Face ∧ p.Face ≤ 3
structure SG (x : T_api_Shot) : Prop where
  X : 0 ≤ x.X ∧ x.X ≤ 65024
  Y : 0 ≤ x.Y ∧ x.Y ≤ 32256
  VX : -2048 ≤ x.VX ∧ x.VX ≤ 2048
  VY : -2048 ≤ x.VY ∧ x.VY ≤ 2048
  O : x.Owner = 0 ∨ x.Owner = 1
  L : 1 ≤ x.Life ∧ x.Life ≤ 40
theorem pg_of {p : T_api_Player} (h : PlOk p) (hg : plGood p = true) : PG p ∧ 1 ≤ p.Health := by
  have h1 := h.Cool
  have h2 := h.Face
  unfold plGood at hg
  rw [decide_eq_true_eq] at hg
  exact ⟨⟨by omega, by omega, by omega, by omega, by omega, by omega, by omega⟩, by omega⟩
theorem sg_of {x : T_api_Shot} (h : ShOk x) (hg : shGood x = true) : SG x := by
  have h1 := h.Owner
  unfold shGood at hg
  rw [decide_eq_true_eq] at hg
  exact ⟨by omega, by omega, by omega, by omega, by omega, by omega⟩
theorem pg_ok {p : T_api_Player} (h : PG p) : PlOk p := by
  have h1 := h.X; have h2 := h.Y; have h3 := h.VX; have h4 := h.VY; have h5 := h.H; have h6 := h.C; have h7 := h.A
  exact ⟨by omega, by omega, by omega, by omega, by omega, by omega, by omega⟩
theorem pg_good {p : T_api_Player} (h : PG p) (hh : 1 ≤ p.Health) : plGood p = true := by
  have h1 := h.X; have h2 := h.Y; have h3 := h.VX; have h4 := h.VY; have h5 := h.H; have h6 := h.C; have h7 := h.A
  unfold plGood
  rw [decide_eq_true_eq]; omega
theorem sg_ok {x : T_api_Shot} (h : SG x) : ShOk x ∧ shGood x = true := by
  have h1 := h.X; have h2 := h.Y; have h3 := h.VX; have h4 := h.VY; have h5 := h.O; have h6 := h.L
  refine ⟨⟨by omega, by omega, by omega, by omega, by omega, by omega⟩, ?_⟩
  unfold shGood
  rw [decide_eq_true_eq]; omega
theorem st_parts {s : T_api_State} (h : StOk s) (hg : stGood s = true) : (PG s.Players.1 ∧ 1 ≤ s.Players.1.Health) ∧ (PG s.Players.2 ∧ 1 ≤ s.Players.2.Health) ∧ (∀ x ∈ s.Shots, SG x) ∧ s.Shots.length ≤ 8 := by
  simp only [stGood, Bool.and_eq_true, decide_eq_true_eq] at hg
  obtain ⟨⟨⟨h1, h2⟩, h3⟩, h4⟩ := hg
  exact ⟨pg_of h.P1 h2, pg_of h.P2 h3, fun x hx => sg_of (h.Shots x hx) (List.all_eq_true.1 h4 x hx), h1⟩

theorem wayv_in (i a b : Int) : wayv i a b = -1 ∨ wayv i a b = 0 ∨ wayv i a b = 1 := by
  unfold wayv; split
  · exact .inl rfl
  · split
    · exact .inr (.inr rfl)
    · exact .inr (.inl rfl)
theorem tdiv8 (v : Int) : (0 ≤ v → Int.tdiv v 8 = v / 8) ∧ (v ≤ 0 → Int.tdiv v 8 = -((-v) / 8)) := by
  constructor
  · intro h; exact Int.tdiv_eq_ediv_of_nonneg h
  · intro h
    have : Int.tdiv (-(-v)) 8 = -Int.tdiv (-v) 8 := Int.neg_tdiv ..
    rw [Int.neg_neg] at this
    rw [this, Int.tdiv_eq_ediv_of_nonneg (by omega)]
theorem slow_in {v : Int} (h : -1024 ≤ v ∧ v ≤ 1024) : -1024 ≤ slow v ∧ slow v ≤ 1024 ∧ -2048 ≤ Int.tdiv v 8 ∧ Int.tdiv v 8 ≤ 2048 := by
  have h8 := tdiv8 v
  unfold slow
  by_cases hv : 0 ≤ v
  · rw [h8.1 hv]; omega
  · rw [h8.2 (by omega)]; omega
theorem goS_in {v d : Int} (h : -1024 ≤ v ∧ v ≤ 1024) (hd : d = -1 ∨ d = 0 ∨ d = 1) : -1088 ≤ goS v d ∧ goS v d ≤ 1088 := by
  have hs := slow_in h
  unfold goS
  split
  · omega
  · split <;> omega
theorem speedv_in {v d : Int} {b : Bool} : -1024 ≤ speedv v d b ∧ speedv v d b ≤ 1024 := by unfold speedv; omega
theorem turnv_in {f dx dy : Int} (h : 0 ≤ f ∧ f ≤ 3) : 0 ≤ turnv f dx dy ∧ turnv f dx dy ≤ 3 := by
  unfold turnv; repeat' split
  all_goals omega
theorem steer_pg {p : T_api_Player} {i : Int} (h : PG p) : PG (steerv p i) := by
  have h6 := h.C
  refine ⟨h.X, h.Y, speedv_in, speedv_in, h.H, ?_, turnv_in h.A⟩
  simp only [steerv, coolv]
  split <;> omega
theorem shoot_sg {p : T_api_Player} {o : Int} (h : PG p) (ho : o = 0 ∨ o = 1) : SG (shootv p o) := by
  have h1 := h.X; have h2 := h.Y
  have hv : -2048 ≤ (shotV p.Face).1 ∧ (shotV p.Face).1 ≤ 2048 ∧ -2048 ≤ (shotV p.Face).2 ∧ (shotV p.Face).2 ≤ 2048 := by
    unfold shotV; repeat' split
    all_goals simp
  exact ⟨by simp only [shootv]; omega, by simp only [shootv]; omega, by simp only [shootv]; omega, by simp only [shootv]; omega, ho, by simp only [shootv]; omega⟩
theorem fireOne_ok {p : T_api_Player} {i o : Int} {l : List T_api_Shot} (h : PG p) (ho : o = 0 ∨ o = 1) (hl : ∀ x ∈ l, SG x) (h8 : l.length ≤ 8) :
    PG (fireOne p i o l).1 ∧ (fireOne p i o l).1.Health = p.Health ∧ (∀ x ∈ (fireOne p i o l).2, SG x) ∧ (fireOne p i o l).2.length ≤ 8 ∧ (fireOne p i o l).2.length ≤ l.length + 1 := by
  unfold fireOne
  split
  · rename_i hf
    have h8' : l.length < 8 := by
      unfold fireP at hf
      rw [Bool.and_eq_true, decide_eq_true_eq] at hf
      exact hf.2
    refine ⟨⟨h.X, h.Y, h.VX, h.VY, h.H, by simp [fired], h.A⟩, rfl, fun x hx => ?_, by simp; omega, by simp⟩
    rcases List.mem_append.1 hx with hx | hx
    · exact hl x hx
    · obtain rfl := List.mem_singleton.1 hx
      exact shoot_sg h ho
  · exact ⟨h, rfl, hl, h8, Nat.le_succ _⟩
theorem movev_in {x v hi : Int} (h : 0 ≤ x ∧ x ≤ hi) (hv : -1024 ≤ v ∧ v ≤ 1024) : (0 ≤ (movev x v hi).1 ∧ (movev x v hi).1 ≤ hi) ∧ (-1024 ≤ (movev x v hi).2 ∧ (movev x v hi).2 ≤ 1024) ∧ (-1024 ≤ (movev x v hi).1 - x ∧ (movev x v hi).1 - x ≤ 1024) := by
  unfold movev; repeat' split
  all_goals simp only
  all_goals omega
theorem moved_pg {p : T_api_Player} (h : PG p) : PG (movedv p) :=
  ⟨(movev_in h.X h.VX).1, (movev_in h.Y h.VY).1, (movev_in h.X h.VX).2.1, (movev_in h.Y h.VY).2.1, h.H, h.C, h.A⟩
theorem stop_pg {p : T_api_Player} (h : PG p) : PG (stopv p) := ⟨h.X, h.Y, by simp [stopv], by simp [stopv], h.H, h.C, h.A⟩
theorem three_pg {p q : T_api_Player} (hp : PG p) (hq : PG q) : PG (threev p q).1 ∧ PG (threev p q).2 := by
  unfold threev; split
  · exact ⟨stop_pg hp, stop_pg hq⟩
  · exact ⟨moved_pg hp, moved_pg hq⟩
theorem hurt_pg {p : T_api_Player} (h : PG p) : PG (hurtv p) := by
  have h5 := h.H
  exact ⟨h.X, h.Y, h.VX, h.VY, by simp only [hurtv]; omega, h.C, h.A⟩
structure FG (c : FlySt) (n : Nat) : Prop where
  P : PG c.2.1.1
  Q : PG c.2.1.2
  L : ∀ x ∈ c.1, SG x
  N : c.1.length ≤ n
  S1 : 0 ≤ c.2.2.1 ∧ c.2.2.1 ≤ 65535
  S2 : 0 ≤ c.2.2.2 ∧ c.2.2.2 ≤ 65535
theorem next_sg {x : T_api_Shot} (h : SG x) (hi : insS (nextSh x) = true) (hl : 0 < x.Life - 1) : SG (nextSh x) := by
  have h6 := h.L
  unfold insS at hi
  rw [decide_eq_true_eq] at hi
  exact ⟨by omega, by omega, h.VX, h.VY, h.O, by simp only [nextSh]; omega⟩
theorem fly_fg {c : FlySt} {x : T_api_Shot} {n : Nat} (h : FG c n) (hx : SG x) : FG (flyOne c x) (n + 1) := by
  have hN := h.N
  have hs1 := h.S1
  have hs2 := h.S2
  unfold flyOne
  split
  · rename_i hi
    split
    · split
      · exact ⟨h.P, hurt_pg h.Q, h.L, by simp only; omega, by simp only [scored]; omega, h.S2⟩
      · split
        · rename_i hl
          refine ⟨h.P, h.Q, fun y hy => ?_, by simp only [List.length_append, List.length_cons, List.length_nil]; omega, h.S1, h.S2⟩
          rcases List.mem_append.1 hy with hy | hy
          · exact h.L y hy
          · obtain rfl := List.mem_singleton.1 hy
            exact next_sg hx hi hl
        · exact ⟨h.P, h.Q, h.L, by omega, h.S1, h.S2⟩
    · split
      · exact ⟨hurt_pg h.P, h.Q, h.L, by simp only; omega, h.S1, by simp only [scored]; omega⟩
      · split
        · rename_i hl
          refine ⟨h.P, h.Q, fun y hy => ?_, by simp only [List.length_append, List.length_cons, List.length_nil]; omega, h.S1, h.S2⟩
          rcases List.mem_append.1 hy with hy | hy
          · exact h.L y hy
          · obtain rfl := List.mem_singleton.1 hy
            exact next_sg hx hi hl
        · exact ⟨h.P, h.Q, h.L, by omega, h.S1, h.S2⟩
  · exact ⟨h.P, h.Q, h.L, by omega, h.S1, h.S2⟩
theorem flys_fg : ∀ {l : List T_api_Shot} {c : FlySt} {n : Nat}, FG c n → (∀ x ∈ l, SG x) → FG (l.foldl flyOne c) (n + l.length)
  | [], c, n, h, _ => h
  | x :: l, c, n, h, hl => by
    have := flys_fg (l := l) (fly_fg h (hl x (by simp))) (fun y hy => hl y (by simp [hy]))
    rw [List.foldl_cons, List.length_cons, show n + (l.length + 1) = n + 1 + l.length by omega]
    exact this

theorem wrap64_in (x : Int) : 0 ≤ IntKind.wrap .u64 x ∧ IntKind.wrap .u64 x ≤ 18446744073709551615 := by
  unfold IntKind.wrap
  simp [IntKind.bits, IntKind.signed]; omega
theorem xor_in (a b : Int) : 0 ≤ bits .xor .u64 a b ∧ bits .xor .u64 a b ≤ 18446744073709551615 := by
  unfold bits
  exact wrap64_in _

theorem mix_of (z : Int) : m_rng_Mix F z = some (mixN z) := rfl
theorem mixN_in (z : Int) : 0 ≤ mixN z ∧ mixN z ≤ 18446744073709551615 := xor_in _ _
attribute [irreducible] mixN
theorem nextS_in (d : Int) : 0 ≤ nextS d ∧ nextS d ≤ 18446744073709551615 := by
  unfold nextS IntKind.wrap
  simp [IntKind.bits, IntKind.signed]; omega
theorem belowN_in {d n : Int} (h : 1 ≤ n ∧ n ≤ 100000) : 0 ≤ belowN d n ∧ belowN d n < n := by
  have hm := mixN_in (nextS d)
  unfold belowN
  generalize mixN (nextS d) = x at *
  have h1 : 0 ≤ x / 4294967296 ∧ x / 4294967296 ≤ 4294967295 := by omega
  generalize x / 4294967296 = y at *
  have h2 : 0 ≤ y * n := Int.mul_nonneg h1.1 (by omega)
  have h3 : y * n ≤ 4294967295 * n := Int.mul_le_mul_of_nonneg_right h1.2 (by omega)
  generalize y * n = z at *
  omega
theorem there_pg {p : T_api_Player} {d : Int} (h : PG p) : PG (there p d) := by
  have h1 := belowN_in (d := d) (n := 61441) (by omega)
  have h2 := belowN_in (d := nextS d) (n := 28673) (by omega)
  exact ⟨by simp only [there]; omega, by simp only [there]; omega, by simp [there], by simp [there], by simp [there], h.C, h.A⟩
theorem back_pg {p q : T_api_Player} {d : Int} (h : PG p) : PG (backv p q d) ∧ (backv p q d).Health = 100 := by
  unfold backv; split
  · exact ⟨⟨h.X, h.Y, by simp [here], by simp [here], by simp [here], h.C, h.A⟩, rfl⟩
  · exact ⟨there_pg h, rfl⟩
theorem rev_ok {d : Int} {r : T_api_Player × T_api_Player} (h : PG r.1) (h' : PG r.2) (hd : 0 ≤ d ∧ d ≤ 18446744073709551615) :
    PG (revd d r).2.1 ∧ PG (revd d r).2.2 ∧ 1 ≤ (revd d r).2.1.Health ∧ 1 ≤ (revd d r).2.2.Health ∧ 0 ≤ (revd d r).1 ∧ (revd d r).1 ≤ 18446744073709551615 := by
  have h0 : PG (rev0 d r).2.1 ∧ PG (rev0 d r).2.2 ∧ 1 ≤ (rev0 d r).2.1.Health ∧ 0 ≤ (rev0 d r).1 ∧ (rev0 d r).1 ≤ 18446744073709551615 := by
    unfold rev0; split
    · obtain ⟨b1, b2⟩ := back_pg (q := r.2) (d := d) h
      exact ⟨b1, h', by simp only [b2]; omega, nextS_in _⟩
    · have := h.H
      exact ⟨h, h', by simp only; omega, hd⟩
  unfold revd rev1
  split
  · obtain ⟨b1, b2⟩ := back_pg (q := (rev0 d r).2.1) (d := (rev0 d r).1) h0.2.1
    exact ⟨h0.1, b1, h0.2.2.1, by simp only [b2]; omega, nextS_in _⟩
  · have := h0.2.1.H
    exact ⟨h0.1, h0.2.1, h0.2.2.1, by simp only; omega, h0.2.2.2⟩

theorem flown_ok {s : T_api_State} {i j : Int} (h : StOk s) (hg : stGood s = true) : FG (flown s i j) 8 ∧ (flown s i j).1.length ≤ s.Shots.length + 2 := by
  obtain ⟨⟨p1, _⟩, ⟨p2, _⟩, hs, h8⟩ := st_parts h hg
  obtain ⟨a1, a2, a3, a4, a5⟩ := fireOne_ok (i := i) (o := 0) (steer_pg (i := i) p1) (.inl rfl) hs h8
  obtain ⟨b1, b2, b3, b4, b5⟩ := fireOne_ok (i := j) (o := 1) (steer_pg (i := j) p2) (.inr rfl) a3 a4
  obtain ⟨t1, t2⟩ := three_pg a1 b1
  have hf := flys_fg (c := ([], threev (fireOne (steerv s.Players.1 i) i 0 s.Shots).1 (fireOne (steerv s.Players.2 j) j 1 (fireOne (steerv s.Players.1 i) i 0 s.Shots).2).1, s.Score)) (n := 0) ⟨t1, t2, by simp, by simp, h.Sc1, h.Sc2⟩ b3
  rw [Nat.zero_add] at hf
  have hN := hf.N
  refine ⟨⟨hf.P, hf.Q, hf.L, by unfold flown; omega, hf.S1, hf.S2⟩, by unfold flown; omega⟩

theorem made_ok {s : T_api_State} {i j : Int} (h : StOk s) (hg : stGood s = true) : StOk (madeOf s i j) ∧ stGood (madeOf s i j) = true := by
  obtain ⟨hf, _⟩ := flown_ok (i := i) (j := j) h hg
  obtain ⟨r1, r2, r3, r4, r5⟩ := rev_ok hf.P hf.Q h.Seed
  refine ⟨⟨?_, r5, pg_ok r1, pg_ok r2, fun x hx => (sg_ok (hf.L x hx)).1, hf.S1, hf.S2⟩, ?_⟩
  · show 0 ≤ IntKind.wrap .u64 (s.Frame + 1) ∧ IntKind.wrap .u64 (s.Frame + 1) ≤ 18446744073709551615
    unfold IntKind.wrap
    simp [IntKind.bits, IntKind.signed]; omega
  · unfold stGood
    have e1 : plGood (madeOf s i j).Players.1 = true := pg_good r1 r3
    have e2 : plGood (madeOf s i j).Players.2 = true := pg_good r2 r4
    have e3 : (madeOf s i j).Shots.all shGood = true := List.all_eq_true.2 fun x hx => (sg_ok (hf.L x hx)).2
    have e4 : (madeOf s i j).Shots.length ≤ 8 := hf.N
    rw [e1, e2, e3, decide_eq_true e4]
    rfl

theorem step_ok {s : T_api_State} {i j : Int} (h : StOk s) : StOk (stepv s i j) := by
  unfold stepv; split
  · rename_i hc; exact (made_ok h hc.1).1
  · exact h
theorem step_good {s : T_api_State} {i j : Int} (h : StOk s) (hg : stGood s = true) : stGood (stepv s i j) = true := by
  unfold stepv; split
  · rename_i hc; exact (made_ok h hc.1).2
  · exact hg

end Go.Proofs.YtkdbpenjkcjimaaGreatDoor
