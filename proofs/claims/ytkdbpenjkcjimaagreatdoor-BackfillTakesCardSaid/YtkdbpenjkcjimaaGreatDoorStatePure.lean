/-
  The game's states, in plain Lean: which may be, and their bytes, by the program and by the document.
-/
import Derived.Test.YtkdbpenjkcjimaaGreatDoorCodecPure
namespace Go.Proofs.YtkdbpenjkcjimaaGreatDoor
open Go Go.Proofs.YtkdbpenjkcjimaaGreatDoor.Eng
set_option linter.unusedSimpArgs false
set_option linter.unusedVariables false
set_option maxHeartbeats 1000000

variable {F : Nat}

theorem toB_append (a b : List Int) : toB (a ++ b) = toB a ++ toB b := by simp [toB]
theorem toB_length (a : List Int) : (toB a).length = a.length := by simp [toB]
theorem vb_length : ∀ f n, (vb f n).length ≤ f + 1
  | 0, n => by simp [vb]
  | f + 1, n => by
    have := vb_length f (n / 128)
    unfold vb; split <;> simp <;> omega

structure PlOk (p : T_api_Player) : Prop where
  X : -2147483648 ≤ p.X ∧ p.X ≤ 2147483647
  Y : -2147483648 ≤ p.Y ∧ p.Y ≤ 2147483647
  VX : -2147483648 ≤ p.VX ∧ p.VX ≤ 2147483647
  VY : -2147483648 ≤ p.VY ∧ p.VY ≤ 2147483647
  Health : 0 ≤ p.Health ∧ p.Health ≤ 255
  Cool : 0 ≤ p.Cool ∧ p.Cool ≤ 255
  Face : 0 ≤ p.Face ∧ p.Face ≤ 255
structure ShOk (x : T_api_Shot) : Prop where
  X : -2147483648 ≤ x.X ∧ x.X ≤ 2147483647
  Y : -2147483648 ≤ x.Y ∧ x.Y ≤ 2147483647
  VX : -2147483648 ≤ x.VX ∧ x.VX ≤ 2147483647
  VY : -2147483648 ≤ x.VY ∧ x.VY ≤ 2147483647
  Owner : 0 ≤ x.Owner ∧ x.Owner ≤ 255
  Life : 0 ≤ x.Life ∧ x.Life ≤ 255
structure StOk (s : T_api_State) : Prop where
  Frame : 0 ≤ s.Frame ∧ s.Frame ≤ 18446744073709551615
  Seed : 0 ≤ s.Seed ∧ s.Seed ≤ 18446744073709551615
  P1 : PlOk s.Players.1
  P2 : PlOk s.Players.2
  Shots : ∀ x ∈ s.Shots, ShOk x
  Sc1 : 0 ≤ s.Score.1 ∧ s.Score.1 ≤ 65535
  Sc2 : 0 ≤ s.Score.2 ∧ s.Score.2 ≤ 65535

def plGood (p : T_api_Player) : Bool :=
  decide ((0 ≤ p.X ∧ p.X ≤ 61440) ∧ (0 ≤ p.Y ∧ p.Y ≤ 28672) ∧ (-1024 ≤ p.VX ∧ p.VX ≤ 1024) ∧ (-1024 ≤ p.VY ∧ p.VY ≤ 1024) ∧ (1 ≤ p.Health ∧ p.Health ≤ 100) ∧ p.Cool ≤ 30 ∧ p.Face ≤ 3)
def shGood (x : T_api_Shot) : Bool :=
  decide ((0 ≤ x.X ∧ x.X ≤ 65024) ∧ (0 ≤ x.Y ∧ x.Y ≤ 32256) ∧ (-2048 ≤ x.VX ∧ x.VX ≤ 2048) ∧ (-2048 ≤ x.VY ∧ x.VY ≤ 2048) ∧ x.Owner ≤ 1 ∧ 1 ≤ x.Life ∧ x.Life ≤ 40)
def stGood (s : T_api_State) : Bool := ((decide (s.Shots.length ≤ 8) && plGood s.Players.1) && plGood s.Players.2) && s.Shots.all shGood

theorem stGood_leI {s : T_api_State} (h : stGood s = true) : s.Shots.length ≤ 8 := by
  simp only [stGood, Bool.and_eq_true, decide_eq_true_eq] at h
  exact h.1.1.1

def inb : List Int → List (Int × Int) → Bool
  | x :: l, p :: b => (!decide (x < p.1) && !decide (p.2 < x)) && inb l b
  | _, _ => true

/-- The shots' bounds. -/
def shTab : Arr (Int × Int) 6 := ⟨[((0 : Int), (65024 : Int)), ((0 : Int), (32256 : Int)), (((-2048) : Int), (2048 : Int)), (((-2048) : Int), (2048 : Int)), ((0 : Int), (1 : Int)), ((1 : Int), (40 : Int))], rfl⟩
theorem shTab_1 : shTab.1 = [((0 : Int), (65024 : Int)), ((0 : Int), (32256 : Int)), (((-2048) : Int), (2048 : Int)), (((-2048) : Int), (2048 : Int)), ((0 : Int), (1 : Int)), ((1 : Int), (40 : Int))] := rfl

theorem within_loop {l : List Int} {b : List (Int × Int)} (hb : l.length ≤ b.length) (hl : l.length ≤ 1000) : ∀ (m i : Nat), l.length - i < m → i ≤ l.length →
    m_state_within_L6 F l b m (i : Int) = some (if inb (l.drop i) (b.drop i) then .inl false else .inr false)
  | 0, i, hm, _ => by omega
  | m + 1, i, hm, hi => by
    rw [m_state_within_L6.eq_2]
    by_cases h1 : i < l.length
    · have hx : l[i]? = some l[i] := List.getElem?_eq_getElem h1
      have hy : b[i]? = some b[i] := List.getElem?_eq_getElem (by omega)
      have hw : IntKind.wrap .i64 ((i : Int) + 1) = ((i + 1 : Nat) : Int) := by rw [wr_i64 ⟨by omega, by omega⟩]; omega
      have ih := within_loop hb hl m (i + 1) (by omega) (by omega)
      have hd : inb (l.drop i) (b.drop i) = ((!decide (l[i] < b[i].1) && !decide (b[i].2 < l[i])) && inb (l.drop (i + 1)) (b.drop (i + 1))) := by
        rw [List.drop_eq_getElem_cons h1, List.drop_eq_getElem_cons (show i < b.length by omega)]; rfl
      simp only [decide_eq_true (show (i : Int) < (l.length : Int) by omega), cond_true, getI_nat, hx, hy, Option.bind_some, hw, ih, hd]
      cases decide (l[i] < b[i].1) <;> cases decide (b[i].2 < l[i]) <;> simp
    · simp only [decide_eq_false (show ¬ (i : Int) < (l.length : Int) by omega), cond_false]
      rw [List.drop_of_length_le (by omega)]
      rfl

theorem within_of {l : List Int} {b : List (Int × Int)} (hb : l.length ≤ b.length) (hl : l.length ≤ 1000) (hF : l.length < F) : m_state_within F l b = some (inb l b) := by
  have := within_loop (F := F) hb hl F 0 (by omega) (by omega)
  simp only [m_state_within]
  rw [show (0 : Int) = ((0 : Nat) : Int) from rfl, this]
  simp only [List.drop_zero]
  cases inb l b <;> rfl

theorem inb_player {p : T_api_Player} (h : PlOk p) : inb [p.X, p.Y, p.VX, p.VY, IntKind.wrap .i32 p.Health, IntKind.wrap .i32 p.Cool, IntKind.wrap .i32 p.Face] [((0 : Int), (61440 : Int)), ((0 : Int), (28672 : Int)), (((-1024) : Int), (1024 : Int)), (((-1024) : Int), (1024 : Int)), ((1 : Int), (100 : Int)), ((0 : Int), (30 : Int)), ((0 : Int), (3 : Int))] = plGood p := by
  have h1 := h.Health
  have h2 := h.Cool
  have h3 := h.Face
  rw [wr_i32 (x := p.Health) ⟨by omega, by omega⟩, wr_i32 (x := p.Cool) ⟨by omega, by omega⟩, wr_i32 (x := p.Face) ⟨by omega, by omega⟩]
  unfold plGood
  rw [Bool.eq_iff_iff]
  simp only [inb, Bool.and_eq_true, Bool.not_eq_true', decide_eq_false_iff_not, decide_eq_true_eq, and_true]
  omega

theorem inb_shot {x : T_api_Shot} (h : ShOk x) : inb [x.X, x.Y, x.VX, x.VY, IntKind.wrap .i32 x.Owner, IntKind.wrap .i32 x.Life] [((0 : Int), (65024 : Int)), ((0 : Int), (32256 : Int)), (((-2048) : Int), (2048 : Int)), (((-2048) : Int), (2048 : Int)), ((0 : Int), (1 : Int)), ((1 : Int), (40 : Int))] = shGood x := by
  have h1 := h.Owner
  have h2 := h.Life
  rw [wr_i32 (x := x.Owner) ⟨by omega, by omega⟩, wr_i32 (x := x.Life) ⟨by omega, by omega⟩]
  unfold shGood
  rw [Bool.eq_iff_iff]
  simp only [inb, Bool.and_eq_true, Bool.not_eq_true', decide_eq_false_iff_not, decide_eq_true_eq, and_true]
  omega

theorem check1_of {x : T_api_Shot} (h : ShOk x) (hF : 10 ≤ F) : m_state_Check_1 F x shTab = some (!shGood x) := by
  simp only [m_state_Check_1, m_state_ofShot, Option.bind_some, shTab_1]
  rw [within_of (by simp) (by simp) (by simp; omega), inb_shot h]
  rfl

theorem contains_loop {l : List T_api_Shot} (hl : l.length ≤ 1000000) (ho : ∀ x ∈ l, ShOk x) (hF : 10 ≤ F) : ∀ (m i : Nat), l.length - i < m → i ≤ l.length →
    ∃ r, m_slices_IndexFunc___api_Shot_api_Shot_f1_state_Check_1_L6 F l shTab m (i : Int) = some r ∧
      (((l.drop i).all shGood = true ∧ r = .inl 0) ∨ ((l.drop i).all shGood = false ∧ ∃ k : Nat, r = .inr (k : Int)))
  | 0, i, hm, _ => by omega
  | m + 1, i, hm, hi => by
    rw [m_slices_IndexFunc___api_Shot_api_Shot_f1_state_Check_1_L6.eq_2]
    by_cases h1 : i < l.length
    · have hx : l[i]? = some l[i] := List.getElem?_eq_getElem h1
      have hw : IntKind.wrap .i64 ((i : Int) + 1) = ((i + 1 : Nat) : Int) := by rw [wr_i64 ⟨by omega, by omega⟩]; omega
      have hc := check1_of (F := F) (ho _ (List.mem_of_getElem? hx)) hF
      have hd : (l.drop i).all shGood = (shGood l[i] && (l.drop (i + 1)).all shGood) := by rw [List.drop_eq_getElem_cons h1]; rfl
      simp only [decide_eq_true (show (i : Int) < (l.length : Int) by omega), cond_true, getI_nat, hx, Option.bind_some, hc, hw, hd]
      cases hg : shGood l[i]
      · exact ⟨_, rfl, .inr ⟨by simp, i, rfl⟩⟩
      · simp only [Bool.not_true, cond_false, Bool.true_and]
        exact contains_loop hl ho hF m (i + 1) (by omega) (by omega)
    · simp only [decide_eq_false (show ¬ (i : Int) < (l.length : Int) by omega), cond_false]
      rw [List.drop_of_length_le (by omega)]
      exact ⟨_, rfl, .inl ⟨rfl, rfl⟩⟩

theorem contains_of {l : List T_api_Shot} (hl : l.length ≤ 1000000) (ho : ∀ x ∈ l, ShOk x) (hF : 10 ≤ F) (hF2 : l.length < F) :
    m_slices_ContainsFunc___api_Shot_api_Shot_f1_state_Check_1 F l shTab = some (!l.all shGood) := by
  obtain ⟨r, h1, h2⟩ := contains_loop (F := F) hl ho hF F 0 (by omega) (by omega)
  simp only [m_slices_ContainsFunc___api_Shot_api_Shot_f1_state_Check_1, m_slices_IndexFunc___api_Shot_api_Shot_f1_state_Check_1]
  have h1' : m_slices_IndexFunc___api_Shot_api_Shot_f1_state_Check_1_L6 F l shTab F 0 = some r := h1
  rw [h1']
  rw [List.drop_zero] at h2
  rcases h2 with ⟨h2, rfl⟩ | ⟨h2, k, rfl⟩
  · rw [h2]; rfl
  · rw [h2]
    simp only [Option.bind_some, orE_r]
    rw [decide_eq_true (by omega)]; rfl

/-- The table as the model prints it. -/
theorem contains_tab {l : List T_api_Shot} (hl : l.length ≤ 1000000) (ho : ∀ x ∈ l, ShOk x) (hF : 10 ≤ F) (hF2 : l.length < F) :
    m_slices_ContainsFunc___api_Shot_api_Shot_f1_state_Check_1 F l (⟨[((0 : Int), (65024 : Int)), ((0 : Int), (32256 : Int)), (((-2048) : Int), (2048 : Int)), (((-2048) : Int), (2048 : Int)), ((0 : Int), (1 : Int)), ((1 : Int), (40 : Int))], rfl⟩ : Arr (Int × Int) 6) = some (!l.all shGood) := contains_of hl ho hF hF2

/-- What Check answers. -/
theorem check_of {s : T_api_State} (h : StOk s) (hs : s.Shots.length ≤ 1000000) (hF : 10 ≤ F) (hF2 : s.Shots.length < F) : m_state_Check F s = some (if stGood s then 0 else 4) := by
  have hw1 := within_of (F := F) (l := [s.Players.1.X, s.Players.1.Y, s.Players.1.VX, s.Players.1.VY, IntKind.wrap .i32 s.Players.1.Health, IntKind.wrap .i32 s.Players.1.Cool, IntKind.wrap .i32 s.Players.1.Face]) (b := [((0 : Int), (61440 : Int)), ((0 : Int), (28672 : Int)), (((-1024) : Int), (1024 : Int)), (((-1024) : Int), (1024 : Int)), ((1 : Int), (100 : Int)), ((0 : Int), (30 : Int)), ((0 : Int), (3 : Int))]) (by simp) (by simp) (by simp; omega)
  have hw2 := within_of (F := F) (l := [s.Players.2.X, s.Players.2.Y, s.Players.2.VX, s.Players.2.VY, IntKind.wrap .i32 s.Players.2.Health, IntKind.wrap .i32 s.Players.2.Cool, IntKind.wrap .i32 s.Players.2.Face]) (b := [((0 : Int), (61440 : Int)), ((0 : Int), (28672 : Int)), (((-1024) : Int), (1024 : Int)), (((-1024) : Int), (1024 : Int)), ((1 : Int), (100 : Int)), ((0 : Int), (30 : Int)), ((0 : Int), (3 : Int))]) (by simp) (by simp) (by simp; omega)
  rw [inb_player h.P1] at hw1
  rw [inb_player h.P2] at hw2
  have hc := contains_tab (F := F) (l := s.Shots) hs h.Shots hF hF2
  obtain ⟨m, hm⟩ : ∃ m, F = m + 3 := ⟨F - 3, by omega⟩
  have hl : ∀ g, m_state_Check_L10 F s F g 0 = some ((g && plGood s.Players.1) && plGood s.Players.2) := by
    intro g
    have w1 : IntKind.wrap .i64 ((0 : Int) + 1) = 1 := wr_i64 ⟨by omega, by omega⟩
    have w2 : IntKind.wrap .i64 ((1 : Int) + 1) = 2 := wr_i64 ⟨by omega, by omega⟩
    have e : m_state_Check_L10 F s F = m_state_Check_L10 F s (m + 3) := by rw [← hm]
    rw [e]
    simp only [m_state_Check_L10, m_state_ofPlayer, Option.bind_some, hw1, hw2, w1, w2, show decide ((0 : Int) < 2) = true from rfl, show decide ((1 : Int) < 2) = true from rfl, show decide ((2 : Int) < 2) = false from rfl,
      show ((0 : Int) == 0) = true from rfl, show ((1 : Int) == 0) = false from rfl, show ((1 : Int) == 1) = true from rfl, cond_true, cond_false]
    cases g <;> cases plGood s.Players.1 <;> rfl
  have hd : decide ((s.Shots.length : Int) ≤ 8) = decide (s.Shots.length ≤ 8) := by
    rw [decide_eq_decide]; omega
  simp only [m_state_Check, hl, Option.bind_some, hc, hd]
  unfold stGood
  cases hA : ((decide (s.Shots.length ≤ 8) && plGood s.Players.1) && plGood s.Players.2) <;> cases hB : s.Shots.all shGood <;> rfl

theorem rplayer_of {p : T_api_Player} : m_hindcastref08_Player F p = some (plGood p) := by
  simp only [m_hindcastref08_Player, m_hindcastref08_in, and_some, Option.bind_some, plGood]
  rw [Option.some.injEq, Bool.eq_iff_iff]
  simp only [Bool.and_eq_true, decide_eq_true_eq]
  omega
theorem rshot_of {x : T_api_Shot} : m_hindcastref08_Shot F x = some (shGood x) := by
  simp only [m_hindcastref08_Shot, m_hindcastref08_in, and_some, Option.bind_some, shGood]
  rw [Option.some.injEq, Bool.eq_iff_iff]
  simp only [Bool.and_eq_true, decide_eq_true_eq]
  omega

theorem rcheck_loop {s : T_api_State} (hs : s.Shots.length ≤ 1000000) : ∀ (m i : Nat), s.Shots.length - i < m → i ≤ s.Shots.length →
    m_hindcastref08_Check_L14 F s m (i : Int) = some (if (s.Shots.drop i).all shGood then .inl 0 else .inr 4)
  | 0, i, hm, _ => by omega
  | m + 1, i, hm, hi => by
    rw [m_hindcastref08_Check_L14.eq_2]
    by_cases h1 : i < s.Shots.length
    · have hx : s.Shots[i]? = some s.Shots[i] := List.getElem?_eq_getElem h1
      have hw : IntKind.wrap .i64 ((i : Int) + 1) = ((i + 1 : Nat) : Int) := by rw [wr_i64 ⟨by omega, by omega⟩]; omega
      have ih := rcheck_loop hs m (i + 1) (by omega) (by omega)
      have hd : (s.Shots.drop i).all shGood = (shGood s.Shots[i] && (s.Shots.drop (i + 1)).all shGood) := by rw [List.drop_eq_getElem_cons h1]; rfl
      simp only [decide_eq_true (show (i : Int) < (s.Shots.length : Int) by omega), cond_true, getI_nat, hx, Option.bind_some, rshot_of, hw, ih, hd]
      cases shGood s.Shots[i] <;> simp
    · simp only [decide_eq_false (show ¬ (i : Int) < (s.Shots.length : Int) by omega), cond_false]
      rw [List.drop_of_length_le (by omega)]
      rfl

theorem rcheck_of {s : T_api_State} (hs : s.Shots.length ≤ 1000000) (hF2 : s.Shots.length < F) : m_hindcastref08_Check F s = some (if stGood s then 0 else 4) := by
  have hl := rcheck_loop (F := F) hs F 0 (by omega) (by omega)
  rw [List.drop_zero] at hl
  have hl' : m_hindcastref08_Check_L14 F s F 0 = _ := hl
  have hd : decide ((8 : Int) < (s.Shots.length : Int)) = !decide (s.Shots.length ≤ 8) := by
    rw [Bool.eq_iff_iff]; simp; omega
  simp only [m_hindcastref08_Check, rplayer_of, Option.bind_some, hd, or_some, hl']
  unfold stGood
  cases decide (s.Shots.length ≤ 8) <;> cases plGood s.Players.1 <;> cases plGood s.Players.2 <;> cases s.Shots.all shGood <;> rfl

/-! ### Bytes -/
def u32 (x : Int) : Nat := (IntKind.wrap .u32 x).toNat
theorem u32_wrap (x : Int) : IntKind.wrap .u32 x = ((u32 x : Nat) : Int) := by
  unfold u32
  simp only [IntKind.wrap, IntKind.bits, IntKind.signed]; simp; omega
theorem u32_lt (x : Int) : u32 x < 4294967296 := by
  unfold u32
  simp only [IntKind.wrap, IntKind.bits, IntKind.signed]; simp; omega
def wB (x : Int) : List Int := iL (le 4 (u32 x))
theorem wB_length (x : Int) : (wB x).length = 4 := by simp [wB, iL_length, le_length]
def plB (p : T_api_Player) : List Int := wB p.X ++ (wB p.Y ++ (wB p.VX ++ (wB p.VY ++ [p.Health, p.Cool, p.Face])))
def shB (x : T_api_Shot) : List Int := wB x.X ++ (wB x.Y ++ (wB x.VX ++ (wB x.VY ++ [x.Owner, x.Life])))
def shsB (l : List T_api_Shot) : List Int := (l.map shB).flatten
def stB (s : T_api_State) : List Int :=
  iL (le 8 s.Frame.toNat) ++ (iL (le 8 s.Seed.toNat) ++ (plB s.Players.1 ++ (plB s.Players.2 ++ (iL (vb 9 s.Shots.length) ++ (shsB s.Shots ++ (iL (le 2 s.Score.1.toNat) ++ iL (le 2 s.Score.2.toNat)))))))
theorem plB_length (p : T_api_Player) : (plB p).length = 19 := by simp [plB, wB_length]
theorem shB_length (x : T_api_Shot) : (shB x).length = 18 := by simp [shB, wB_length]
theorem shsB_cons (x : T_api_Shot) (l : List T_api_Shot) : shsB (x :: l) = shB x ++ shsB l := rfl
theorem shsB_length : ∀ l : List T_api_Shot, (shsB l).length = 18 * l.length
  | [] => rfl
  | x :: l => by rw [shsB_cons, List.length_append, shB_length, shsB_length l, List.length_cons]; omega



end Go.Proofs.YtkdbpenjkcjimaaGreatDoor
