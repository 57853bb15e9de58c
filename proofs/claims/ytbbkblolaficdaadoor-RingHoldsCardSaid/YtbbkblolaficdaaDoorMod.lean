/-
  Models of the functions of the chapter: what each computes, as a Lean function (none: it is not said). Printed by a program of this claim's own.
-/
import Derived.Test.YtbbkblolaficdaaDoorEng5
namespace Go.Proofs.YtbbkblolaficdaaDoor
open Go.Proofs.YtbbkblolaficdaaDoor.Eng
set_option linter.unusedVariables false
set_option linter.unusedSimpArgs false

structure T_api_Player where
  X : Int
  Y : Int
  VX : Int
  VY : Int
  Health : Int
  Cool : Int
  Face : Int
theorem T_api_Player.eta (x : T_api_Player) : T_api_Player.mk x.X x.Y x.VX x.VY x.Health x.Cool x.Face = x := rfl

def c_T_api_Player (x : T_api_Player) : List Value := [.int .i32 x.X, .int .i32 x.Y, .int .i32 x.VX, .int .i32 x.VY, .int .u8 x.Health, .int .u8 x.Cool, .int .u8 x.Face]
theorem c_T_api_Player_len (x : T_api_Player) : (c_T_api_Player x).length = 7 := rfl

structure T_api_Shot where
  X : Int
  Y : Int
  VX : Int
  VY : Int
  Owner : Int
  Life : Int
theorem T_api_Shot.eta (x : T_api_Shot) : T_api_Shot.mk x.X x.Y x.VX x.VY x.Owner x.Life = x := rfl

def c_T_api_Shot (x : T_api_Shot) : List Value := [.int .i32 x.X, .int .i32 x.Y, .int .i32 x.VX, .int .i32 x.VY, .int .u8 x.Owner, .int .u8 x.Life]
theorem c_T_api_Shot_len (x : T_api_Shot) : (c_T_api_Shot x).length = 6 := rfl

structure T_api_State where
  Frame : Int
  Seed : Int
  Players : (T_api_Player × T_api_Player)
  Shots : (List T_api_Shot)
  Score : (Int × Int)
theorem T_api_State.eta (x : T_api_State) : T_api_State.mk x.Frame x.Seed x.Players x.Shots x.Score = x := rfl

structure T_ring_place where
  s : T_api_State
  is_ : Bool
theorem T_ring_place.eta (x : T_ring_place) : T_ring_place.mk x.s x.is_ = x := rfl

def cg_T_ring_place (p : T_ring_place × G) : List Value := [.int .u64 p.1.s.Frame, .int .u64 p.1.s.Seed, .int .i32 p.1.s.Players.1.X, .int .i32 p.1.s.Players.1.Y, .int .i32 p.1.s.Players.1.VX, .int .i32 p.1.s.Players.1.VY, .int .u8 p.1.s.Players.1.Health, .int .u8 p.1.s.Players.1.Cool, .int .u8 p.1.s.Players.1.Face, .int .i32 p.1.s.Players.2.X, .int .i32 p.1.s.Players.2.Y, .int .i32 p.1.s.Players.2.VX, .int .i32 p.1.s.Players.2.VY, .int .u8 p.1.s.Players.2.Health, .int .u8 p.1.s.Players.2.Cool, .int .u8 p.1.s.Players.2.Face, .slice p.2.1 p.2.2.1 p.2.2.2, .int .u16 p.1.s.Score.1, .int .u16 p.1.s.Score.2, .bool p.1.is_]
theorem cg_T_ring_place_len (p : T_ring_place × G) : (cg_T_ring_place p).length = 20 := rfl
def sh_T_ring_place (x : T_ring_place) : List T_api_Shot := x.s.Shots

structure T_ring_Ring where
  size : Int
  places : (Arr T_ring_place 14)
theorem T_ring_Ring.eta (x : T_ring_Ring) : T_ring_Ring.mk x.size x.places = x := rfl

def gl_state_playerBounds : List Value := [.int .i32 (0 : Int), .int .i32 (61440 : Int), .int .i32 (0 : Int), .int .i32 (28672 : Int), .int .i32 ((-1024) : Int), .int .i32 (1024 : Int), .int .i32 ((-1024) : Int), .int .i32 (1024 : Int), .int .i32 (1 : Int), .int .i32 (100 : Int), .int .i32 (0 : Int), .int .i32 (30 : Int), .int .i32 (0 : Int), .int .i32 (3 : Int)]

def gl_state_shotBounds : List Value := [.int .i32 (0 : Int), .int .i32 (65024 : Int), .int .i32 (0 : Int), .int .i32 (32256 : Int), .int .i32 ((-2048) : Int), .int .i32 (2048 : Int), .int .i32 ((-2048) : Int), .int .i32 (2048 : Int), .int .i32 (0 : Int), .int .i32 (1 : Int), .int .i32 (1 : Int), .int .i32 (40 : Int)]

structure T_api_Box where
  X : Int
  Y : Int
  W : Int
  H : Int
theorem T_api_Box.eta (x : T_api_Box) : T_api_Box.mk x.X x.Y x.W x.H = x := rfl

def c_T_api_Box (x : T_api_Box) : List Value := [.int .i32 x.X, .int .i32 x.Y, .int .i32 x.W, .int .i32 x.H]
theorem c_T_api_Box_len (x : T_api_Box) : (c_T_api_Box x).length = 4 := rfl

structure T_geom_row where
  from_ : Int
  to_ : Int
theorem T_geom_row.eta (x : T_geom_row) : T_geom_row.mk x.from_ x.to_ = x := rfl

def c_T_geom_row (x : T_geom_row) : List Value := [.int .i64 x.from_, .int .i64 x.to_]
theorem c_T_geom_row_len (x : T_geom_row) : (c_T_geom_row x).length = 2 := rfl

structure T_rng_Source where
  S : Int
theorem T_rng_Source.eta (x : T_rng_Source) : T_rng_Source.mk x.S = x := rfl

def c_T_rng_Source (x : T_rng_Source) : List Value := [.int .u64 x.S]
theorem c_T_rng_Source_len (x : T_rng_Source) : (c_T_rng_Source x).length = 1 := rfl

def cg_T_api_State (p : T_api_State × G) : List Value := [.int .u64 p.1.Frame, .int .u64 p.1.Seed, .int .i32 p.1.Players.1.X, .int .i32 p.1.Players.1.Y, .int .i32 p.1.Players.1.VX, .int .i32 p.1.Players.1.VY, .int .u8 p.1.Players.1.Health, .int .u8 p.1.Players.1.Cool, .int .u8 p.1.Players.1.Face, .int .i32 p.1.Players.2.X, .int .i32 p.1.Players.2.Y, .int .i32 p.1.Players.2.VX, .int .i32 p.1.Players.2.VY, .int .u8 p.1.Players.2.Health, .int .u8 p.1.Players.2.Cool, .int .u8 p.1.Players.2.Face, .slice p.2.1 p.2.2.1 p.2.2.2, .int .u16 p.1.Score.1, .int .u16 p.1.Score.2]
theorem cg_T_api_State_len (p : T_api_State × G) : (cg_T_api_State p).length = 19 := rfl
def sh_T_api_State (x : T_api_State) : List T_api_Shot := x.Shots

def m_ring_New (F : Nat) (p0 : Int) : Option ((Option T_ring_Ring)) :=
  (Option.bind (cond (decide (p0 < (1 : Int))) (some (true)) (some ((decide ((14 : Int) < p0))))) fun v8 => (cond v8 (some none) (some (some
    (T_ring_Ring.mk p0 (Arr.rep 14 (T_ring_place.mk (T_api_State.mk (0 : Int) (0 : Int) ((T_api_Player.mk (0 : Int) (0 : Int) (0 : Int) (0 : Int) (0 :
    Int) (0 : Int) (0 : Int)), (T_api_Player.mk (0 : Int) (0 : Int) (0 : Int) (0 : Int) (0 : Int) (0 : Int) (0 : Int))) ([] : List T_api_Shot) ((0 :
    Int), (0 : Int))) false)))))))

def m_state_Start_L8 (F : Nat) : Nat → Int → (T_api_Player × T_api_Player) → Option ((T_api_Player × T_api_Player))
  | 0, _, _ => none
  | n + 1, j9_7, j9_n3_f2 =>
      (cond (decide (j9_7 < (2 : Int))) (cond (j9_7 == (0 : Int)) (m_state_Start_L8 F n (IntKind.wrap .i64 (j9_7 + (1 : Int))) ((T_api_Player.mk
        (IntKind.wrap .i32 ((8192 : Int) + (IntKind.wrap .i32 ((IntKind.wrap .i32 j9_7) * (45056 : Int))))) (14336 : Int) (0 : Int) (0 : Int) (100 :
        Int) (0 : Int) (IntKind.wrap .u8 j9_7)), j9_n3_f2.2)) (cond (j9_7 == (1 : Int)) (m_state_Start_L8 F n (IntKind.wrap .i64 (j9_7 + (1 : Int)))
        (j9_n3_f2.1, (T_api_Player.mk (IntKind.wrap .i32 ((8192 : Int) + (IntKind.wrap .i32 ((IntKind.wrap .i32 j9_7) * (45056 : Int))))) (14336 :
        Int) (0 : Int) (0 : Int) (100 : Int) (0 : Int) (IntKind.wrap .u8 j9_7)))) none)) (some j9_n3_f2))

def m_state_Start (F : Nat) (p0 : Int) : Option (T_api_State) :=
  (Option.bind (m_state_Start_L8 F F (0 : Int) ((T_api_Player.mk (0 : Int) (0 : Int) (0 : Int) (0 : Int) (0 : Int) (0 : Int) (0 : Int)),
    (T_api_Player.mk (0 : Int) (0 : Int) (0 : Int) (0 : Int) (0 : Int) (0 : Int) (0 : Int)))) fun l9_n3_f2 => some (T_api_State.mk (0 : Int) p0
    l9_n3_f2 ([] : List T_api_Shot) ((0 : Int), (0 : Int))))

def m_slices_Clone___api_Shot_api_Shot (F : Nat) (p0 : (List T_api_Shot)) : Option ((List T_api_Shot)) :=
  (Option.bind (appI ([] : List T_api_Shot) p0) fun v7 => some v7)

def m_state_Copy (F : Nat) (p0 : T_api_State) : Option (T_api_State) :=
  (Option.bind (m_slices_Clone___api_Shot_api_Shot F p0.Shots) fun v5 => some (T_api_State.mk p0.Frame p0.Seed p0.Players v5 p0.Score))

def m_state_ofPlayer (F : Nat) (p0 : T_api_Player) : Option ((List Int)) :=
  some ([p0.X, p0.Y, p0.VX, p0.VY, (IntKind.wrap .i32 p0.Health), (IntKind.wrap .i32 p0.Cool), (IntKind.wrap .i32 p0.Face)] : List Int)

def m_state_within_L6 (F : Nat) (p0 : (List Int)) (p1 : (List (Int × Int))) : Nat → Int → Option ((Bool) ⊕ (Bool))
  | 0, _ => none
  | n + 1, j7_8 =>
      (cond (decide (j7_8 < (p0.length : Int))) (Option.bind (getI p0 j7_8) fun v13 => (Option.bind (getI p1 j7_8) fun v17 => (Option.bind (cond
        (decide (v13 < v17.1)) (some (true)) ((Option.bind (getI p0 j7_8) fun v24 => (Option.bind (getI p1 j7_8) fun v28 => some ((decide (v28.2 <
        v24))))))) fun v32 => (cond v32 (some (.inr false)) (m_state_within_L6 F p0 p1 n (IntKind.wrap .i64 (j7_8 + (1 : Int)))))))) (some (.inl
        false)))

def m_state_within (F : Nat) (p0 : (List Int)) (p1 : (List (Int × Int))) : Option (Bool) :=
  (Option.bind (m_state_within_L6 F p0 p1 F (0 : Int)) (orE (fun l7_4 => some true) (fun r7 => some r7)))

def m_state_ofShot (F : Nat) (p0 : T_api_Shot) : Option ((List Int)) :=
  some ([p0.X, p0.Y, p0.VX, p0.VY, (IntKind.wrap .i32 p0.Owner), (IntKind.wrap .i32 p0.Life)] : List Int)

def m_state_Check_1 (F : Nat) (p0 : T_api_Shot) (p1 : (Arr (Int × Int) 6)) : Option (Bool) :=
  (Option.bind (m_state_ofShot F p0) fun v5 => (Option.bind (m_state_within F v5 p1.1) fun v7 => some (!v7)))

def m_slices_IndexFunc___api_Shot_api_Shot_f1_state_Check_1_L6 (F : Nat) (p0 : (List T_api_Shot)) (p1c0 : (Arr (Int × Int) 6)) : Nat → Int → Option ((Int) ⊕ (Int))
  | 0, _ => none
  | n + 1, j7_8 =>
      (cond (decide (j7_8 < (p0.length : Int))) (Option.bind (getI p0 j7_8) fun v14 => (Option.bind (m_state_Check_1 F v14 p1c0) fun v16 => (cond v16
        (some (.inr j7_8)) (m_slices_IndexFunc___api_Shot_api_Shot_f1_state_Check_1_L6 F p0 p1c0 n (IntKind.wrap .i64 (j7_8 + (1 : Int))))))) (some
        (.inl (0 : Int))))

def m_slices_IndexFunc___api_Shot_api_Shot_f1_state_Check_1 (F : Nat) (p0 : (List T_api_Shot)) (p1c0 : (Arr (Int × Int) 6)) : Option (Int) :=
  (Option.bind (m_slices_IndexFunc___api_Shot_api_Shot_f1_state_Check_1_L6 F p0 p1c0 F (0 : Int)) (orE (fun l7_4 => some (-1 : Int)) (fun r7 => some
    r7)))

def m_slices_ContainsFunc___api_Shot_api_Shot_f1_state_Check_1 (F : Nat) (p0 : (List T_api_Shot)) (p1c0 : (Arr (Int × Int) 6)) : Option (Bool) :=
  (Option.bind (m_slices_IndexFunc___api_Shot_api_Shot_f1_state_Check_1 F p0 p1c0) fun v7 => some (decide ((0 : Int) ≤ v7)))

def m_state_Check_L10 (F : Nat) (p0 : T_api_State) : Nat → Bool → Int → Option (Bool)
  | 0, _, _ => none
  | n + 1, j11_5, j11_16 =>
      (cond (decide (j11_16 < (2 : Int))) (cond (j11_16 == (0 : Int)) ((Option.bind (cond j11_5 ((Option.bind (m_state_ofPlayer F p0.Players.1) fun
        v22 => (Option.bind (m_state_within F v22 ([((0 : Int), (61440 : Int)), ((0 : Int), (28672 : Int)), (((-1024) : Int), (1024 : Int)), (((-1024)
        : Int), (1024 : Int)), ((1 : Int), (100 : Int)), ((0 : Int), (30 : Int)), ((0 : Int), (3 : Int))] : List (Int × Int))) fun v24 => some
        (v24)))) (some (false))) fun v25 => m_state_Check_L10 F p0 n v25 (IntKind.wrap .i64 (j11_16 + (1 : Int))))) (cond (j11_16 == (1 : Int))
        ((Option.bind (cond j11_5 ((Option.bind (m_state_ofPlayer F p0.Players.2) fun v22 => (Option.bind (m_state_within F v22 ([((0 : Int), (61440 :
        Int)), ((0 : Int), (28672 : Int)), (((-1024) : Int), (1024 : Int)), (((-1024) : Int), (1024 : Int)), ((1 : Int), (100 : Int)), ((0 : Int), (30
        : Int)), ((0 : Int), (3 : Int))] : List (Int × Int))) fun v24 => some (v24)))) (some (false))) fun v25 => m_state_Check_L10 F p0 n v25
        (IntKind.wrap .i64 (j11_16 + (1 : Int))))) none)) (some j11_5))

def m_state_Check (F : Nat) (p0 : T_api_State) : Option (Int) :=
  (Option.bind (m_state_Check_L10 F p0 F (decide ((p0.Shots.length : Int) ≤ (8 : Int))) (0 : Int)) fun l11_5 => (Option.bind (cond (!l11_5) (some
    (true)) ((Option.bind (m_slices_ContainsFunc___api_Shot_api_Shot_f1_state_Check_1 F p0.Shots (⟨[((0 : Int), (65024 : Int)), ((0 : Int), (32256 :
    Int)), (((-2048) : Int), (2048 : Int)), (((-2048) : Int), (2048 : Int)), ((0 : Int), (1 : Int)), ((1 : Int), (40 : Int))], rfl⟩ : Arr (Int × Int)
    6)) fun v33 => some (v33)))) fun v34 => (cond v34 (some (4 : Int)) (some (0 : Int)))))

def m_input_Legal (F : Nat) (p0 : Int) : Option (Bool) :=
  some (decide (p0 < (64 : Int)))

def m_input_way (F : Nat) (p0 : Int) (p1 : Int) (p2 : Int) : Option (Int) :=
  (cond ((bits .and .u8 p0 (bits .or .u8 p1 p2)) == p1) (some (-1 : Int)) (cond ((bits .and .u8 p0 (bits .or .u8 p1 p2)) == p2) (some (1 : Int)) (some
    (0 : Int))))

def m_input_Dir (F : Nat) (p0 : Int) : Option (Int × Int) :=
  (Option.bind (m_input_way F p0 (1 : Int) (2 : Int)) fun v5 => (Option.bind (m_input_way F p0 (4 : Int) (8 : Int)) fun v7 => some (v5, v7)))

def m_step_turn (F : Nat) (p0 : Int) (p1 : Int) (p2 : Int) : Option (Int) :=
  (cond (decide ((0 : Int) < p1)) (some (0 : Int)) (cond (decide (p1 < (0 : Int))) (some (1 : Int)) (cond (decide (p2 < (0 : Int))) (some (2 : Int))
    (cond (decide ((0 : Int) < p2)) (some (3 : Int)) (some p0)))))

def m_input_Dash (F : Nat) (p0 : Int) : Option (Bool) :=
  some ((bits .and .u8 p0 (32 : Int)) != (0 : Int))

def m_step_steer_1 (F : Nat) (p0 : Int) (p1 : Int) (p2 : Bool) : Option (Int) :=
  (Option.bind ((cond (p1 != (0 : Int)) (some (IntKind.wrap .i32 (p0 + (IntKind.wrap .i32 ((64 : Int) * p1))))) (Option.bind (cond (decide ((-8 : Int)
    < (IntKind.wrap .i32 (p0 - (IntKind.wrap .i32 (Int.tdiv p0 8)))))) (some ((decide ((IntKind.wrap .i32 (p0 - (IntKind.wrap .i32 (Int.tdiv p0 8))))
    < (8 : Int))))) (some (false))) fun v21 => (cond v21 (some (0 : Int)) (some (IntKind.wrap .i32 (p0 - (IntKind.wrap .i32 (Int.tdiv p0 8)))))))))
    fun j6_0 => (Option.bind ((cond p2 (some (IntKind.wrap .i32 (j6_0 * (2 : Int)))) (some j6_0))) fun j18_0 => some (max (-1024 : Int) (min j18_0
    (1024 : Int)))))

def m_step_steer (F : Nat) (p0 : T_api_Player) (p1 : Int) : Option (T_api_Player) :=
  (Option.bind (m_input_Dir F p1) fun (v11_0, v11_1) => (Option.bind (m_step_turn F p0.Face v11_0 v11_1) fun v25 => (Option.bind (m_input_Dash F p1)
    fun v28 => (Option.bind (cond v28 (some (((IntKind.wrap .u8 (p0.Cool - (min p0.Cool (1 : Int)))) == (0 : Int)))) (some (false))) fun v33 =>
    (Option.bind (m_step_steer_1 F p0.VX v11_0 v33) fun v39 => (Option.bind (m_step_steer_1 F p0.VY v11_1 v33) fun v44 => (Option.bind ((cond v33
    (some (T_api_Player.mk p0.X p0.Y v39 v44 p0.Health (30 : Int) v25)) (some (T_api_Player.mk p0.X p0.Y v39 v44 p0.Health (IntKind.wrap .u8 (p0.Cool
    - (min p0.Cool (1 : Int)))) v25)))) fun j18_n2 => some j18_n2)))))))

def m_input_Fire (F : Nat) (p0 : Int) : Option (Bool) :=
  some ((bits .and .u8 p0 (16 : Int)) != (0 : Int))

def m_step_shoot (F : Nat) (p0 : T_api_Player) (p1 : Int) : Option (T_api_Shot) :=
  (Option.bind ((cond (p0.Face == (0 : Int)) (some (T_api_Shot.mk (IntKind.wrap .i32 (p0.X + (1792 : Int))) (IntKind.wrap .i32 (p0.Y + (1792 : Int)))
    (2048 : Int) (0 : Int) p1 (40 : Int))) (cond (p0.Face == (1 : Int)) (some (T_api_Shot.mk (IntKind.wrap .i32 (p0.X + (1792 : Int))) (IntKind.wrap
    .i32 (p0.Y + (1792 : Int))) (-2048 : Int) (0 : Int) p1 (40 : Int))) (cond (p0.Face == (2 : Int)) (some (T_api_Shot.mk (IntKind.wrap .i32 (p0.X +
    (1792 : Int))) (IntKind.wrap .i32 (p0.Y + (1792 : Int))) (0 : Int) (-2048 : Int) p1 (40 : Int))) (some (T_api_Shot.mk (IntKind.wrap .i32 (p0.X +
    (1792 : Int))) (IntKind.wrap .i32 (p0.Y + (1792 : Int))) (0 : Int) (2048 : Int) p1 (40 : Int))))))) fun j8_n5 => some j8_n5)

def m_geom_Move (F : Nat) (p0 : Int) (p1 : Int) (p2 : Int) (p3 : Int) : Option (Int × Int) :=
  (Option.bind (cond (decide (p3 < p2)) (some (true)) (some ((decide ((IntKind.wrap .i64 ((IntKind.wrap .i64 p0) + (IntKind.wrap .i64 p1))) <
    (IntKind.wrap .i64 p2)))))) fun v24 => (cond v24 (some (p2, (0 : Int))) (cond (decide ((IntKind.wrap .i64 p3) < (IntKind.wrap .i64 ((IntKind.wrap
    .i64 p0) + (IntKind.wrap .i64 p1))))) (some (p3, (0 : Int))) (some ((IntKind.wrap .i32 (IntKind.wrap .i64 ((IntKind.wrap .i64 p0) + (IntKind.wrap
    .i64 p1)))), p1)))))

def m_step_moved (F : Nat) (p0 : T_api_Player) : Option (T_api_Player) :=
  (Option.bind (m_geom_Move F p0.X p0.VX (0 : Int) (61440 : Int)) fun (v8_0, v8_1) => (Option.bind (m_geom_Move F p0.Y p0.VY (0 : Int) (28672 : Int))
    fun (v18_0, v18_1) => some (T_api_Player.mk v8_0 v18_0 v8_1 v18_1 p0.Health p0.Cool p0.Face)))

def m_step_box (F : Nat) (p0 : T_api_Player) : Option (T_api_Box) :=
  some (T_api_Box.mk p0.X p0.Y (4096 : Int) (4096 : Int))

def m_geom_of (F : Nat) (p0 : Int) (p1 : Int) : Option (T_geom_row) :=
  some (T_geom_row.mk (IntKind.wrap .i64 p0) (IntKind.wrap .i64 ((IntKind.wrap .i64 p0) + (IntKind.wrap .i64 (max (0 : Int) p1)))))

def m_geom_rows (F : Nat) (p0 : T_api_Box) : Option (T_geom_row × T_geom_row) :=
  (Option.bind (m_geom_of F p0.X p0.W) fun v8 => (Option.bind (m_geom_of F p0.Y p0.H) fun v13 => some (v8, v13)))

def m_geom_row_over (F : Nat) (p0 : T_geom_row) (p1 : T_geom_row) : Option (Bool) :=
  some (decide ((max p0.from_ p1.from_) < (min p0.to_ p1.to_)))

def m_geom_both_f2_geom_row_over (F : Nat) (p0 : T_api_Box) (p1 : T_api_Box) : Option (Bool) :=
  (Option.bind (m_geom_rows F p0) fun (v13_0, v13_1) => (Option.bind (m_geom_rows F p1) fun (v18_0, v18_1) => (Option.bind (m_geom_row_over F v13_0
    v18_0) fun v24 => (Option.bind (cond v24 ((Option.bind (m_geom_row_over F v13_1 v18_1) fun v29 => some (v29))) (some (false))) fun v30 => some
    v30))))

def m_geom_Over (F : Nat) (p0 : T_api_Box) (p1 : T_api_Box) : Option (Bool) :=
  (Option.bind (m_geom_both_f2_geom_row_over F p0 p1) fun v7 => some v7)

def m_step_stopped (F : Nat) (p0 : T_api_Player) : Option (T_api_Player) :=
  some (T_api_Player.mk p0.X p0.Y (0 : Int) (0 : Int) p0.Health p0.Cool p0.Face)

def m_geom_row_inside (F : Nat) (p0 : T_geom_row) (p1 : T_geom_row) : Option (Bool) :=
  (Option.bind (cond (decide (p0.from_ < p0.to_)) (some ((decide (p1.from_ ≤ p0.from_)))) (some (false))) fun v16 => (Option.bind (cond v16 (some
    ((decide (p0.to_ ≤ p1.to_)))) (some (false))) fun v23 => some v23))

def m_geom_both_f2_geom_row_inside (F : Nat) (p0 : T_api_Box) (p1 : T_api_Box) : Option (Bool) :=
  (Option.bind (m_geom_rows F p0) fun (v13_0, v13_1) => (Option.bind (m_geom_rows F p1) fun (v18_0, v18_1) => (Option.bind (m_geom_row_inside F v13_0
    v18_0) fun v24 => (Option.bind (cond v24 ((Option.bind (m_geom_row_inside F v13_1 v18_1) fun v29 => some (v29))) (some (false))) fun v30 => some
    v30))))

def m_geom_Inside (F : Nat) (p0 : T_api_Box) (p1 : T_api_Box) : Option (Bool) :=
  (Option.bind (m_geom_both_f2_geom_row_inside F p0 p1) fun v7 => some v7)

def m_step_fly_L8 (F : Nat) (p0 : T_api_State) : Nat → (List T_api_Shot) → Int → (T_api_Player × T_api_Player) → (Int × Int) → Option ((List T_api_Shot) × (T_api_Player × T_api_Player) × (Int × Int))
  | 0, _, _, _, _ => none
  | n + 1, j9_3, j9_14, j9_p0_f2, j9_p0_f4 =>
      (cond (decide (j9_14 < (p0.Shots.length : Int))) (Option.bind (getI p0.Shots j9_14) fun v16 => (cond ((IntKind.wrap .u8 ((1 : Int) - v16.Owner))
        == (0 : Int)) ((Option.bind (m_geom_Inside F (T_api_Box.mk (IntKind.wrap .i32 (v16.X + v16.VX)) (IntKind.wrap .i32 (v16.Y + v16.VY)) (512 :
        Int) (512 : Int)) (T_api_Box.mk (0 : Int) (0 : Int) (65536 : Int) (32768 : Int))) fun v49 => (cond (!v49) (m_step_fly_L8 F p0 n j9_3
        (IntKind.wrap .i64 (j9_14 + (1 : Int))) j9_p0_f2 j9_p0_f4) (Option.bind (m_step_box F j9_p0_f2.1) fun v56 => (Option.bind (m_geom_Over F
        (T_api_Box.mk (IntKind.wrap .i32 (v16.X + v16.VX)) (IntKind.wrap .i32 (v16.Y + v16.VY)) (512 : Int) (512 : Int)) v56) fun v57 => (cond v57
        (cond (v16.Owner == (0 : Int)) (m_step_fly_L8 F p0 n j9_3 (IntKind.wrap .i64 (j9_14 + (1 : Int))) ((T_api_Player.mk j9_p0_f2.1.X j9_p0_f2.1.Y
        j9_p0_f2.1.VX j9_p0_f2.1.VY (IntKind.wrap .u8 (j9_p0_f2.1.Health - (min j9_p0_f2.1.Health (10 : Int)))) j9_p0_f2.1.Cool j9_p0_f2.1.Face),
        j9_p0_f2.2) ((IntKind.wrap .u16 ((min j9_p0_f4.1 (65534 : Int)) + (1 : Int))), j9_p0_f4.2)) (cond (v16.Owner == (1 : Int)) (m_step_fly_L8 F p0
        n j9_3 (IntKind.wrap .i64 (j9_14 + (1 : Int))) ((T_api_Player.mk j9_p0_f2.1.X j9_p0_f2.1.Y j9_p0_f2.1.VX j9_p0_f2.1.VY (IntKind.wrap .u8
        (j9_p0_f2.1.Health - (min j9_p0_f2.1.Health (10 : Int)))) j9_p0_f2.1.Cool j9_p0_f2.1.Face), j9_p0_f2.2) (j9_p0_f4.1, (IntKind.wrap .u16 ((min
        j9_p0_f4.2 (65534 : Int)) + (1 : Int))))) none)) (cond (decide ((0 : Int) < (IntKind.wrap .u8 (v16.Life - (1 : Int))))) (Option.bind (appI
        j9_3 ([(T_api_Shot.mk (IntKind.wrap .i32 (v16.X + v16.VX)) (IntKind.wrap .i32 (v16.Y + v16.VY)) v16.VX v16.VY v16.Owner (IntKind.wrap .u8
        (v16.Life - (1 : Int))))] : List T_api_Shot)) fun v92 => m_step_fly_L8 F p0 n v92 (IntKind.wrap .i64 (j9_14 + (1 : Int))) j9_p0_f2 j9_p0_f4)
        (m_step_fly_L8 F p0 n j9_3 (IntKind.wrap .i64 (j9_14 + (1 : Int))) j9_p0_f2 j9_p0_f4)))))))) (cond ((IntKind.wrap .u8 ((1 : Int) - v16.Owner))
        == (1 : Int)) ((Option.bind (m_geom_Inside F (T_api_Box.mk (IntKind.wrap .i32 (v16.X + v16.VX)) (IntKind.wrap .i32 (v16.Y + v16.VY)) (512 :
        Int) (512 : Int)) (T_api_Box.mk (0 : Int) (0 : Int) (65536 : Int) (32768 : Int))) fun v49 => (cond (!v49) (m_step_fly_L8 F p0 n j9_3
        (IntKind.wrap .i64 (j9_14 + (1 : Int))) j9_p0_f2 j9_p0_f4) (Option.bind (m_step_box F j9_p0_f2.2) fun v56 => (Option.bind (m_geom_Over F
        (T_api_Box.mk (IntKind.wrap .i32 (v16.X + v16.VX)) (IntKind.wrap .i32 (v16.Y + v16.VY)) (512 : Int) (512 : Int)) v56) fun v57 => (cond v57
        (cond (v16.Owner == (0 : Int)) (m_step_fly_L8 F p0 n j9_3 (IntKind.wrap .i64 (j9_14 + (1 : Int))) (j9_p0_f2.1, (T_api_Player.mk j9_p0_f2.2.X
        j9_p0_f2.2.Y j9_p0_f2.2.VX j9_p0_f2.2.VY (IntKind.wrap .u8 (j9_p0_f2.2.Health - (min j9_p0_f2.2.Health (10 : Int)))) j9_p0_f2.2.Cool
        j9_p0_f2.2.Face)) ((IntKind.wrap .u16 ((min j9_p0_f4.1 (65534 : Int)) + (1 : Int))), j9_p0_f4.2)) (cond (v16.Owner == (1 : Int))
        (m_step_fly_L8 F p0 n j9_3 (IntKind.wrap .i64 (j9_14 + (1 : Int))) (j9_p0_f2.1, (T_api_Player.mk j9_p0_f2.2.X j9_p0_f2.2.Y j9_p0_f2.2.VX
        j9_p0_f2.2.VY (IntKind.wrap .u8 (j9_p0_f2.2.Health - (min j9_p0_f2.2.Health (10 : Int)))) j9_p0_f2.2.Cool j9_p0_f2.2.Face)) (j9_p0_f4.1,
        (IntKind.wrap .u16 ((min j9_p0_f4.2 (65534 : Int)) + (1 : Int))))) none)) (cond (decide ((0 : Int) < (IntKind.wrap .u8 (v16.Life - (1 :
        Int))))) (Option.bind (appI j9_3 ([(T_api_Shot.mk (IntKind.wrap .i32 (v16.X + v16.VX)) (IntKind.wrap .i32 (v16.Y + v16.VY)) v16.VX v16.VY
        v16.Owner (IntKind.wrap .u8 (v16.Life - (1 : Int))))] : List T_api_Shot)) fun v92 => m_step_fly_L8 F p0 n v92 (IntKind.wrap .i64 (j9_14 + (1 :
        Int))) j9_p0_f2 j9_p0_f4) (m_step_fly_L8 F p0 n j9_3 (IntKind.wrap .i64 (j9_14 + (1 : Int))) j9_p0_f2 j9_p0_f4)))))))) none))) (some (j9_3,
        j9_p0_f2, j9_p0_f4)))

def m_step_fly (F : Nat) (p0 : T_api_State) : Option (T_api_State) :=
  (Option.bind (m_step_fly_L8 F p0 F ([] : List T_api_Shot) (0 : Int) p0.Players p0.Score) fun (l9_3, l9_p0_f2, l9_p0_f4) => some (T_api_State.mk
    p0.Frame p0.Seed l9_p0_f2 l9_3 l9_p0_f4))

def m_rng_Source_Skip (F : Nat) (p0 : T_rng_Source) (p1 : Int) : Option (T_rng_Source) :=
  some (T_rng_Source.mk (IntKind.wrap .u64 (p0.S + (IntKind.wrap .u64 (p1 * (11400714819323198485 : Int))))))

def m_rng_Mix (F : Nat) (p0 : Int) : Option (Int) :=
  some (bits .xor .u64 (IntKind.wrap .u64 ((bits .xor .u64 (IntKind.wrap .u64 ((bits .xor .u64 p0 (p0 / 2 ^ (min 30 (IntKind.bits .u64)))) *
    (13787848793156543929 : Int))) ((IntKind.wrap .u64 ((bits .xor .u64 p0 (p0 / 2 ^ (min 30 (IntKind.bits .u64)))) * (13787848793156543929 : Int))) /
    2 ^ (min 27 (IntKind.bits .u64)))) * (10723151780598845931 : Int))) ((IntKind.wrap .u64 ((bits .xor .u64 (IntKind.wrap .u64 ((bits .xor .u64 p0
    (p0 / 2 ^ (min 30 (IntKind.bits .u64)))) * (13787848793156543929 : Int))) ((IntKind.wrap .u64 ((bits .xor .u64 p0 (p0 / 2 ^ (min 30 (IntKind.bits
    .u64)))) * (13787848793156543929 : Int))) / 2 ^ (min 27 (IntKind.bits .u64)))) * (10723151780598845931 : Int))) / 2 ^ (min 31 (IntKind.bits
    .u64))))

def m_rng_Source_Next (F : Nat) (p0 : T_rng_Source) : Option (Int × T_rng_Source) :=
  (Option.bind (m_rng_Source_Skip F p0 (1 : Int)) fun v5 => (Option.bind (m_rng_Mix F v5.S) fun v8 => some (v8, v5)))

def m_rng_Source_Below (F : Nat) (p0 : T_rng_Source) (p1 : Int) : Option (Int × T_rng_Source) :=
  (cond (decide (p1 < (1 : Int))) (some ((0 : Int), p0)) (Option.bind (m_rng_Source_Next F p0) fun (v13_0, v13_1) => some ((IntKind.wrap .i64
    ((IntKind.wrap .u64 ((v13_0 / 2 ^ (min 32 (IntKind.bits .u64))) * (IntKind.wrap .u64 (min p1 (2147483648 : Int))))) / 2 ^ (min 32 (IntKind.bits
    .u64)))), v13_1)))

def m_step_revive (F : Nat) (p0 : T_api_State) (p1 : Int) : Option (T_api_State) :=
  (cond (p1 == (0 : Int)) ((Option.bind (m_step_stopped F p0.Players.1) fun v15 => (Option.bind (m_rng_Source_Below F (T_rng_Source.mk p0.Seed) (61441
    : Int)) fun (v24_0, v24_1) => (Option.bind (m_rng_Source_Below F v24_1 (28673 : Int)) fun (v29_0, v29_1) => (Option.bind (m_step_box F
    (T_api_Player.mk (IntKind.wrap .i32 v24_0) (IntKind.wrap .i32 v29_0) v15.VX v15.VY (100 : Int) v15.Cool v15.Face)) fun v45 => (cond ((IntKind.wrap
    .i64 ((1 : Int) - p1)) == (0 : Int)) ((Option.bind (m_step_box F p0.Players.1) fun v53 => (Option.bind (m_geom_Over F v45 v53) fun v54 =>
    (Option.bind ((cond (!v54) (some (T_api_Player.mk (IntKind.wrap .i32 v24_0) (IntKind.wrap .i32 v29_0) v15.VX v15.VY (100 : Int) v15.Cool
    v15.Face)) (some (T_api_Player.mk v15.X v15.Y v15.VX v15.VY (100 : Int) v15.Cool v15.Face)))) fun j20_n4 => some (T_api_State.mk p0.Frame v29_1.S
    (j20_n4, p0.Players.2) p0.Shots p0.Score))))) (cond ((IntKind.wrap .i64 ((1 : Int) - p1)) == (1 : Int)) ((Option.bind (m_step_box F p0.Players.2)
    fun v53 => (Option.bind (m_geom_Over F v45 v53) fun v54 => (Option.bind ((cond (!v54) (some (T_api_Player.mk (IntKind.wrap .i32 v24_0)
    (IntKind.wrap .i32 v29_0) v15.VX v15.VY (100 : Int) v15.Cool v15.Face)) (some (T_api_Player.mk v15.X v15.Y v15.VX v15.VY (100 : Int) v15.Cool
    v15.Face)))) fun j20_n4 => some (T_api_State.mk p0.Frame v29_1.S (j20_n4, p0.Players.2) p0.Shots p0.Score))))) none))))))) (cond (p1 == (1 : Int))
    ((Option.bind (m_step_stopped F p0.Players.2) fun v15 => (Option.bind (m_rng_Source_Below F (T_rng_Source.mk p0.Seed) (61441 : Int)) fun (v24_0,
    v24_1) => (Option.bind (m_rng_Source_Below F v24_1 (28673 : Int)) fun (v29_0, v29_1) => (Option.bind (m_step_box F (T_api_Player.mk (IntKind.wrap
    .i32 v24_0) (IntKind.wrap .i32 v29_0) v15.VX v15.VY (100 : Int) v15.Cool v15.Face)) fun v45 => (cond ((IntKind.wrap .i64 ((1 : Int) - p1)) == (0 :
    Int)) ((Option.bind (m_step_box F p0.Players.1) fun v53 => (Option.bind (m_geom_Over F v45 v53) fun v54 => (Option.bind ((cond (!v54) (some
    (T_api_Player.mk (IntKind.wrap .i32 v24_0) (IntKind.wrap .i32 v29_0) v15.VX v15.VY (100 : Int) v15.Cool v15.Face)) (some (T_api_Player.mk v15.X
    v15.Y v15.VX v15.VY (100 : Int) v15.Cool v15.Face)))) fun j20_n4 => some (T_api_State.mk p0.Frame v29_1.S (p0.Players.1, j20_n4) p0.Shots
    p0.Score))))) (cond ((IntKind.wrap .i64 ((1 : Int) - p1)) == (1 : Int)) ((Option.bind (m_step_box F p0.Players.2) fun v53 => (Option.bind
    (m_geom_Over F v45 v53) fun v54 => (Option.bind ((cond (!v54) (some (T_api_Player.mk (IntKind.wrap .i32 v24_0) (IntKind.wrap .i32 v29_0) v15.VX
    v15.VY (100 : Int) v15.Cool v15.Face)) (some (T_api_Player.mk v15.X v15.Y v15.VX v15.VY (100 : Int) v15.Cool v15.Face)))) fun j20_n4 => some
    (T_api_State.mk p0.Frame v29_1.S (p0.Players.1, j20_n4) p0.Shots p0.Score))))) none))))))) none))

def m_step_Step_L16 (F : Nat) (p1 : (Int × Int)) : Nat → Int → (T_api_Player × T_api_Player) → Option ((T_api_Player × T_api_Player))
  | 0, _, _ => none
  | n + 1, j17_29, j17_n2_f2 =>
      (cond (decide (j17_29 < (2 : Int))) (cond (j17_29 == (0 : Int)) ((Option.bind (m_step_steer F j17_n2_f2.1 p1.1) fun v40 => m_step_Step_L16 F p1
        n (IntKind.wrap .i64 (j17_29 + (1 : Int))) (v40, j17_n2_f2.2))) (cond (j17_29 == (1 : Int)) ((Option.bind (m_step_steer F j17_n2_f2.2 p1.2)
        fun v40 => m_step_Step_L16 F p1 n (IntKind.wrap .i64 (j17_29 + (1 : Int))) (j17_n2_f2.1, v40))) none)) (some j17_n2_f2))

def m_step_Step_L33 (F : Nat) (p1 : (Int × Int)) : Nat → Int → (T_api_Player × T_api_Player) → (List T_api_Shot) → Option ((T_api_Player × T_api_Player) × (List T_api_Shot))
  | 0, _, _, _ => none
  | n + 1, j34_44, j34_n2_f2, j34_n2_f3 =>
      (cond (decide (j34_44 < (2 : Int))) (cond (j34_44 == (0 : Int)) ((Option.bind (m_input_Fire F p1.1) fun v53 => (Option.bind (cond v53 (some
        ((j34_n2_f2.1.Cool == (0 : Int)))) (some (false))) fun v60 => (Option.bind (cond v60 (some ((decide ((j34_n2_f3.length : Int) < (8 : Int)))))
        (some (false))) fun v66 => (cond v66 (Option.bind (m_step_shoot F j34_n2_f2.1 (IntKind.wrap .u8 j34_44)) fun v74 => (Option.bind (appI
        j34_n2_f3 ([v74] : List T_api_Shot)) fun v76 => m_step_Step_L33 F p1 n (IntKind.wrap .i64 (j34_44 + (1 : Int))) ((T_api_Player.mk
        j34_n2_f2.1.X j34_n2_f2.1.Y j34_n2_f2.1.VX j34_n2_f2.1.VY j34_n2_f2.1.Health (10 : Int) j34_n2_f2.1.Face), j34_n2_f2.2) v76)) (m_step_Step_L33
        F p1 n (IntKind.wrap .i64 (j34_44 + (1 : Int))) j34_n2_f2 j34_n2_f3)))))) (cond (j34_44 == (1 : Int)) ((Option.bind (m_input_Fire F p1.2) fun
        v53 => (Option.bind (cond v53 (some ((j34_n2_f2.2.Cool == (0 : Int)))) (some (false))) fun v60 => (Option.bind (cond v60 (some ((decide
        ((j34_n2_f3.length : Int) < (8 : Int))))) (some (false))) fun v66 => (cond v66 (Option.bind (m_step_shoot F j34_n2_f2.2 (IntKind.wrap .u8
        j34_44)) fun v74 => (Option.bind (appI j34_n2_f3 ([v74] : List T_api_Shot)) fun v76 => m_step_Step_L33 F p1 n (IntKind.wrap .i64 (j34_44 + (1
        : Int))) (j34_n2_f2.1, (T_api_Player.mk j34_n2_f2.2.X j34_n2_f2.2.Y j34_n2_f2.2.VX j34_n2_f2.2.VY j34_n2_f2.2.Health (10 : Int)
        j34_n2_f2.2.Face)) v76)) (m_step_Step_L33 F p1 n (IntKind.wrap .i64 (j34_44 + (1 : Int))) j34_n2_f2 j34_n2_f3)))))) none)) (some (j34_n2_f2,
        j34_n2_f3)))

def m_step_Step_L70 (F : Nat) : Nat → Int → Int → Int → (T_api_Player × T_api_Player) → (List T_api_Shot) → (Int × Int) → Option (Int × Int × (T_api_Player × T_api_Player) × (List T_api_Shot) × (Int × Int))
  | 0, _, _, _, _, _, _ => none
  | n + 1, j71_108, j71_n2_f0, j71_n2_f1, j71_n2_f2, j71_n2_f3, j71_n2_f4 =>
      (cond (decide (j71_108 < (2 : Int))) (cond (j71_108 == (0 : Int)) ((cond (j71_n2_f2.1.Health == (0 : Int)) (Option.bind (m_step_revive F
        (T_api_State.mk j71_n2_f0 j71_n2_f1 j71_n2_f2 j71_n2_f3 j71_n2_f4) j71_108) fun o118_0 => m_step_Step_L70 F n (IntKind.wrap .i64 (j71_108 + (1
        : Int))) o118_0.Frame o118_0.Seed o118_0.Players o118_0.Shots o118_0.Score) (m_step_Step_L70 F n (IntKind.wrap .i64 (j71_108 + (1 : Int)))
        j71_n2_f0 j71_n2_f1 j71_n2_f2 j71_n2_f3 j71_n2_f4))) (cond (j71_108 == (1 : Int)) ((cond (j71_n2_f2.2.Health == (0 : Int)) (Option.bind
        (m_step_revive F (T_api_State.mk j71_n2_f0 j71_n2_f1 j71_n2_f2 j71_n2_f3 j71_n2_f4) j71_108) fun o118_0 => m_step_Step_L70 F n (IntKind.wrap
        .i64 (j71_108 + (1 : Int))) o118_0.Frame o118_0.Seed o118_0.Players o118_0.Shots o118_0.Score) (m_step_Step_L70 F n (IntKind.wrap .i64
        (j71_108 + (1 : Int))) j71_n2_f0 j71_n2_f1 j71_n2_f2 j71_n2_f3 j71_n2_f4))) none)) (some (j71_n2_f0, j71_n2_f1, j71_n2_f2, j71_n2_f3,
        j71_n2_f4)))

def m_step_Step (F : Nat) (p0 : T_api_State) (p1 : (Int × Int)) : Option (T_api_State) :=
  (Option.bind (m_state_Copy F p0) fun v12 => (Option.bind (m_state_Check F v12) fun v14 => (Option.bind (cond (v14 != (0 : Int)) (some (true))
    ((Option.bind (m_input_Legal F p1.1) fun v19 => some ((!v19))))) fun v21 => (Option.bind (cond v21 (some (true)) ((Option.bind (m_input_Legal F
    p1.2) fun v25 => some ((!v25))))) fun v27 => (cond v27 (some v12) (Option.bind (m_step_Step_L16 F p1 F (0 : Int) v12.Players) fun l17_n2_f2 =>
    (Option.bind (m_step_Step_L33 F p1 F (0 : Int) l17_n2_f2 v12.Shots) fun (l34_n2_f2, l34_n2_f3) => (Option.bind (m_step_moved F l34_n2_f2.1) fun
    v85 => (Option.bind (m_step_moved F l34_n2_f2.2) fun v89 => (Option.bind (m_step_box F v85) fun v91 => (Option.bind (m_step_box F v89) fun v93 =>
    (Option.bind (m_geom_Over F v91 v93) fun v94 => (Option.bind ((cond v94 (Option.bind (m_step_stopped F l34_n2_f2.1) fun v98 => (Option.bind
    (m_step_stopped F l34_n2_f2.2) fun v102 => some (v98, v102))) (some (v85, v89)))) fun (j60_n8, j60_n9) => (Option.bind (m_step_fly F
    (T_api_State.mk v12.Frame v12.Seed (j60_n8, j60_n9) l34_n2_f3 v12.Score)) fun o107_0 => (Option.bind (m_step_Step_L70 F F (0 : Int) o107_0.Frame
    o107_0.Seed o107_0.Players o107_0.Shots o107_0.Score) fun (l71_n2_f0, l71_n2_f1, l71_n2_f2, l71_n2_f3, l71_n2_f4) => some (T_api_State.mk
    (IntKind.wrap .u64 (l71_n2_f0 + (1 : Int))) l71_n2_f1 l71_n2_f2 l71_n2_f3 l71_n2_f4))))))))))))))))

def m_hindcastlaw25_at_L8 (F : Nat) (p0 : Int) : Nat → Int → Int → Int → (T_api_Player × T_api_Player) → (List T_api_Shot) → (Int × Int) → Option (Int × Int × (T_api_Player × T_api_Player) × (List T_api_Shot) × (Int × Int))
  | 0, _, _, _, _, _, _ => none
  | n + 1, j9_4, j9_n3_f0, j9_n3_f1, j9_n3_f2, j9_n3_f3, j9_n3_f4 =>
      (cond (decide (j9_4 < p0)) (Option.bind (m_step_Step F (T_api_State.mk j9_n3_f0 j9_n3_f1 j9_n3_f2 j9_n3_f3 j9_n3_f4) ((0 : Int), (0 : Int))) fun
        v13 => m_hindcastlaw25_at_L8 F p0 n (IntKind.wrap .i64 (j9_4 + (1 : Int))) v13.Frame v13.Seed v13.Players v13.Shots v13.Score) (some
        (j9_n3_f0, j9_n3_f1, j9_n3_f2, j9_n3_f3, j9_n3_f4)))

def m_hindcastlaw25_at (F : Nat) (p0 : Int) : Option (T_api_State) :=
  (Option.bind (m_state_Start F (7 : Int)) fun v5 => (Option.bind (m_hindcastlaw25_at_L8 F p0 F (0 : Int) v5.Frame v5.Seed v5.Players v5.Shots
    v5.Score) fun (l9_n3_f0, l9_n3_f1, l9_n3_f2, l9_n3_f3, l9_n3_f4) => some (T_api_State.mk l9_n3_f0 l9_n3_f1 l9_n3_f2 l9_n3_f3 l9_n3_f4)))

def m_ring_Ring_is_nil0 (F : Nat) : Option (Bool) :=
  some false

def m_ring_Ring_Put_nil0 (F : Nat) (p1 : T_api_State) : Option (Bool) :=
  (Option.bind (m_ring_Ring_is_nil0 F) fun v7 => (Option.bind (cond (!v7) (some (true)) ((Option.bind (m_state_Check F p1) fun v11 => some ((v11 != (0
    : Int)))))) fun v13 => (cond v13 (some false) none)))

def m_ring_Ring_At_nil0 (F : Nat) (p1 : Int) : Option (T_api_State × Bool) :=
  (Option.bind (m_ring_Ring_is_nil0 F) fun v8 => (cond (!v8) (some ((T_api_State.mk (0 : Int) (0 : Int) ((T_api_Player.mk (0 : Int) (0 : Int) (0 :
    Int) (0 : Int) (0 : Int) (0 : Int) (0 : Int)), (T_api_Player.mk (0 : Int) (0 : Int) (0 : Int) (0 : Int) (0 : Int) (0 : Int) (0 : Int))) ([] : List
    T_api_Shot) ((0 : Int), (0 : Int))), false)) none))

def m_slices_Equal___api_Shot_api_Shot_L14 (F : Nat) (p0 : (List T_api_Shot)) (p1 : (List T_api_Shot)) : Nat → Int → Option ((Bool) ⊕ (Bool))
  | 0, _ => none
  | n + 1, j15_13 =>
      (cond (decide (j15_13 < (p0.length : Int))) (Option.bind (getI p0 j15_13) fun v18 => (Option.bind (getI p1 j15_13) fun v22 => (cond (!((v18.X ==
        v22.X) && ((v18.Y == v22.Y) && ((v18.VX == v22.VX) && ((v18.VY == v22.VY) && ((v18.Owner == v22.Owner) && (v18.Life == v22.Life))))))) (some
        (.inr false)) (m_slices_Equal___api_Shot_api_Shot_L14 F p0 p1 n (IntKind.wrap .i64 (j15_13 + (1 : Int))))))) (some (.inl false)))

def m_slices_Equal___api_Shot_api_Shot (F : Nat) (p0 : (List T_api_Shot)) (p1 : (List T_api_Shot)) : Option (Bool) :=
  (cond ((p0.length : Int) != (p1.length : Int)) (some false) (Option.bind (m_slices_Equal___api_Shot_api_Shot_L14 F p0 p1 F (0 : Int)) (orE (fun
    l15_4 => some true) (fun r15 => some r15))))

def m_state_Same (F : Nat) (p0 : T_api_State) (p1 : T_api_State) : Option (Bool) :=
  (Option.bind (cond (p0.Frame == p1.Frame) (some ((p0.Seed == p1.Seed))) (some (false))) fun v16 => (Option.bind (cond v16 (some ((((p0.Players.1.X
    == p1.Players.1.X) && ((p0.Players.1.Y == p1.Players.1.Y) && ((p0.Players.1.VX == p1.Players.1.VX) && ((p0.Players.1.VY == p1.Players.1.VY) &&
    ((p0.Players.1.Health == p1.Players.1.Health) && ((p0.Players.1.Cool == p1.Players.1.Cool) && (p0.Players.1.Face == p1.Players.1.Face))))))) &&
    ((p0.Players.2.X == p1.Players.2.X) && ((p0.Players.2.Y == p1.Players.2.Y) && ((p0.Players.2.VX == p1.Players.2.VX) && ((p0.Players.2.VY ==
    p1.Players.2.VY) && ((p0.Players.2.Health == p1.Players.2.Health) && ((p0.Players.2.Cool == p1.Players.2.Cool) && (p0.Players.2.Face ==
    p1.Players.2.Face)))))))))) (some (false))) fun v23 => (Option.bind (cond v23 (some (((p0.Score.1 == p1.Score.1) && (p0.Score.2 == p1.Score.2))))
    (some (false))) fun v30 => (Option.bind (cond v30 ((Option.bind (m_slices_Equal___api_Shot_api_Shot F p0.Shots p1.Shots) fun v36 => some (v36)))
    (some (false))) fun v37 => some v37))))

def m_hindcastlaw25_holds_nil0 (F : Nat) (p1 : T_api_State) : Option (Bool) :=
  (Option.bind (m_ring_Ring_At_nil0 F p1.Frame) fun (v11_0, v11_1) => (Option.bind (cond v11_1 ((Option.bind (m_state_Same F p1 v11_0) fun v18 => some
    (v18))) (some (false))) fun v19 => some v19))

def m_ring_Ring_Len_nil0 (F : Nat) : Option (Int) :=
  (Option.bind (m_ring_Ring_is_nil0 F) fun v7 => (cond (!v7) (some (0 : Int)) none))

def m_ring_Ring_is (F : Nat) (p0 : T_ring_Ring) : Option (Bool) :=
  some (decide ((0 : Int) < p0.size))

def m_ring_told (F : Nat) (p0 : T_api_State) : Option (T_api_State) :=
  (Option.bind (mkI (p0.Shots.length : Int) (T_api_Shot.mk (0 : Int) (0 : Int) (0 : Int) (0 : Int) (0 : Int) (0 : Int))) fun v10 => some
    (T_api_State.mk p0.Frame p0.Seed p0.Players (copyL v10 p0.Shots) p0.Score))

def m_ring_Ring_Put (F : Nat) (p0 : T_ring_Ring) (p1 : T_api_State) : Option (T_ring_Ring × Bool) :=
  (Option.bind (m_ring_Ring_is F p0) fun v7 => (Option.bind (cond (!v7) (some (true)) ((Option.bind (m_state_Check F p1) fun v11 => some ((v11 != (0 :
    Int)))))) fun v13 => (cond v13 (some (p0, false)) (Option.bind (remI p1.Frame (IntKind.wrap .u64 p0.size)) fun v100012 => (Option.bind (getI
    p0.places.1 v100012) fun v100015 => (Option.bind (cond v100015.is_ (some ((decide (p1.Frame < v100015.s.Frame)))) (some (false))) fun v31 => (cond
    v31 (some (p0, false)) (Option.bind (m_ring_told F p1) fun v34 => some ((T_ring_Ring.mk p0.size (Arr.set p0.places v100012 (T_ring_place.mk v34
    true))), true)))))))))

def m_ring_Ring_At (F : Nat) (p0 : T_ring_Ring) (p1 : Int) : Option (T_api_State × Bool) :=
  (Option.bind (m_ring_Ring_is F p0) fun v8 => (cond (!v8) (some ((T_api_State.mk (0 : Int) (0 : Int) ((T_api_Player.mk (0 : Int) (0 : Int) (0 : Int)
    (0 : Int) (0 : Int) (0 : Int) (0 : Int)), (T_api_Player.mk (0 : Int) (0 : Int) (0 : Int) (0 : Int) (0 : Int) (0 : Int) (0 : Int))) ([] : List
    T_api_Shot) ((0 : Int), (0 : Int))), false)) (Option.bind (remI p1 (IntKind.wrap .u64 p0.size)) fun v100012 => (Option.bind (getI p0.places.1
    v100012) fun v100015 => (Option.bind (cond (!v100015.is_) (some (true)) (some ((v100015.s.Frame != p1)))) fun v27 => (cond v27 (some
    ((T_api_State.mk (0 : Int) (0 : Int) ((T_api_Player.mk (0 : Int) (0 : Int) (0 : Int) (0 : Int) (0 : Int) (0 : Int) (0 : Int)), (T_api_Player.mk (0
    : Int) (0 : Int) (0 : Int) (0 : Int) (0 : Int) (0 : Int) (0 : Int))) ([] : List T_api_Shot) ((0 : Int), (0 : Int))), false)) (Option.bind
    (m_ring_told F v100015.s) fun v33 => some (v33, true))))))))

def m_hindcastlaw25_holds (F : Nat) (p0 : T_ring_Ring) (p1 : T_api_State) : Option (Bool) :=
  (Option.bind (m_ring_Ring_At F p0 p1.Frame) fun (v11_0, v11_1) => (Option.bind (cond v11_1 ((Option.bind (m_state_Same F p1 v11_0) fun v18 => some
    (v18))) (some (false))) fun v19 => some v19))

def m_ring_Ring_Len_L16 (F : Nat) (p0 : T_ring_Ring) : Nat → Int → Int → Option (Int)
  | 0, _, _ => none
  | n + 1, j17_3, j17_13 =>
      (cond (decide (j17_13 < (14 : Int))) (Option.bind (getI p0.places.1 j17_13) fun v15 => (cond v15.is_ (m_ring_Ring_Len_L16 F p0 n (IntKind.wrap
        .i64 (j17_3 + (1 : Int))) (IntKind.wrap .i64 (j17_13 + (1 : Int)))) (m_ring_Ring_Len_L16 F p0 n j17_3 (IntKind.wrap .i64 (j17_13 + (1 :
        Int)))))) (some j17_3))

def m_ring_Ring_Len (F : Nat) (p0 : T_ring_Ring) : Option (Int) :=
  (Option.bind (m_ring_Ring_is F p0) fun v7 => (cond (!v7) (some (0 : Int)) (Option.bind (m_ring_Ring_Len_L16 F p0 F (0 : Int) (0 : Int)) fun l17_3 =>
    some l17_3)))

def m_hindcastlaw25_awake (F : Nat) : Option (Bool) :=
  (Option.bind (m_ring_New F (2 : Int)) fun v2 => poE (some false) (fun v2s => (Option.bind (m_hindcastlaw25_at F (0 : Int)) fun v7 => (Option.bind
    (m_ring_Ring_Put F v2s v7) fun (o8_0, v8) => (Option.bind (cond v8 ((Option.bind (m_hindcastlaw25_at F (1 : Int)) fun v12 => (Option.bind
    (m_ring_Ring_Put F o8_0 v12) fun (o13_0, v13) => some (v13, o13_0.size, o13_0.places)))) (some (false, o8_0.size, o8_0.places))) fun (v14,
    g14_n2_0_f0, g14_n2_0_f1) => (Option.bind (cond v14 ((Option.bind (m_hindcastlaw25_at F (0 : Int)) fun v17 => (Option.bind (m_hindcastlaw25_holds
    F (T_ring_Ring.mk g14_n2_0_f0 g14_n2_0_f1) v17) fun v18 => some (v18)))) (some (false))) fun v19 => (Option.bind (cond v19 ((Option.bind
    (m_hindcastlaw25_at F (2 : Int)) fun v22 => (Option.bind (m_ring_Ring_Put F (T_ring_Ring.mk g14_n2_0_f0 g14_n2_0_f1) v22) fun (o23_0, v23) => some
    (v23, o23_0.size, o23_0.places)))) (some (false, g14_n2_0_f0, g14_n2_0_f1))) fun (v24, g24_n2_0_f0, g24_n2_0_f1) => (Option.bind (cond v24
    ((Option.bind (m_hindcastlaw25_at F (0 : Int)) fun v27 => (Option.bind (m_hindcastlaw25_holds F (T_ring_Ring.mk g24_n2_0_f0 g24_n2_0_f1) v27) fun
    v28 => some ((!v28))))) (some (false))) fun v30 => (Option.bind (cond v30 ((Option.bind (m_hindcastlaw25_at F (1 : Int)) fun v33 => (Option.bind
    (m_hindcastlaw25_holds F (T_ring_Ring.mk g24_n2_0_f0 g24_n2_0_f1) v33) fun v34 => some (v34)))) (some (false))) fun v35 => (Option.bind (cond v35
    ((Option.bind (m_ring_Ring_Len F (T_ring_Ring.mk g24_n2_0_f0 g24_n2_0_f1)) fun v38 => some ((v38 == (2 : Int))))) (some (false))) fun v40 => some
    v40))))))))) v2)

def m_ring_Ring_Newest_L11 (F : Nat) (v16 : (List T_ring_place)) : Nat → Int → Int → Int → (T_api_Player × T_api_Player) → (List T_api_Shot) → (Int × Int) → Bool → Option (Int × Int × (T_api_Player × T_api_Player) × (List T_api_Shot) × (Int × Int) × Bool)
  | 0, _, _, _, _, _, _, _ => none
  | n + 1, j12_18, j12_n4_f0_0, j12_n4_f0_1, j12_n4_f0_2, j12_n4_f0_3, j12_n4_f0_4, j12_n4_f1 =>
      (cond (decide (j12_18 < (v16.length : Int))) (Option.bind (getI v16 j12_18) fun v20 => (Option.bind (cond v20.is_ ((Option.bind (cond
        (!j12_n4_f1) (some (true)) (some ((decide (j12_n4_f0_0 < v20.s.Frame))))) fun v36 => some (v36))) (some (false))) fun v37 => (cond v37
        (m_ring_Ring_Newest_L11 F v16 n (IntKind.wrap .i64 (j12_18 + (1 : Int))) v20.s.Frame v20.s.Seed v20.s.Players v20.s.Shots v20.s.Score v20.is_)
        (m_ring_Ring_Newest_L11 F v16 n (IntKind.wrap .i64 (j12_18 + (1 : Int))) j12_n4_f0_0 j12_n4_f0_1 j12_n4_f0_2 j12_n4_f0_3 j12_n4_f0_4
        j12_n4_f1)))) (some (j12_n4_f0_0, j12_n4_f0_1, j12_n4_f0_2, j12_n4_f0_3, j12_n4_f0_4, j12_n4_f1)))

def m_ring_Ring_Newest (F : Nat) (p0 : T_ring_Ring) : Option (T_api_State × Bool) :=
  (Option.bind (m_ring_Ring_is F p0) fun v8 => (Option.bind ((cond v8 (Option.bind (cutI p0.places.1 0 p0.size) fun v16 => (Option.bind
    (m_ring_Ring_Newest_L11 F v16 F (0 : Int) (0 : Int) (0 : Int) ((T_api_Player.mk (0 : Int) (0 : Int) (0 : Int) (0 : Int) (0 : Int) (0 : Int) (0 :
    Int)), (T_api_Player.mk (0 : Int) (0 : Int) (0 : Int) (0 : Int) (0 : Int) (0 : Int) (0 : Int))) ([] : List T_api_Shot) ((0 : Int), (0 : Int))
    false) fun (l12_n4_f0_0, l12_n4_f0_1, l12_n4_f0_2, l12_n4_f0_3, l12_n4_f0_4, l12_n4_f1) => some (l12_n4_f0_0, l12_n4_f0_1, l12_n4_f0_2,
    l12_n4_f0_3, l12_n4_f0_4, l12_n4_f1))) (some ((0 : Int), (0 : Int), ((T_api_Player.mk (0 : Int) (0 : Int) (0 : Int) (0 : Int) (0 : Int) (0 : Int)
    (0 : Int)), (T_api_Player.mk (0 : Int) (0 : Int) (0 : Int) (0 : Int) (0 : Int) (0 : Int) (0 : Int))), ([] : List T_api_Shot), ((0 : Int), (0 :
    Int)), false)))) fun (j8_n4_f0_0, j8_n4_f0_1, j8_n4_f0_2, j8_n4_f0_3, j8_n4_f0_4, j8_n4_f1) => (Option.bind (m_ring_told F (T_api_State.mk
    j8_n4_f0_0 j8_n4_f0_1 j8_n4_f0_2 j8_n4_f0_3 j8_n4_f0_4)) fun v42 => some (v42, j8_n4_f1))))

def m_hindcastlaw25_RingHolds_L28 (F : Nat) (p1 : (List (Int × Int))) : Nat → (List T_api_State) → Int → Option ((List T_api_State))
  | 0, _, _ => none
  | n + 1, j29_9, j29_10 =>
      (cond (decide (j29_10 < (p1.length : Int))) (Option.bind (getI p1 j29_10) fun v61 => (Option.bind (cond (decide (v61.1 < (64 : Int)))
        ((Option.bind (getI p1 j29_10) fun v68 => some ((decide (v68.2 < (64 : Int)))))) (some (false))) fun v72 => (cond v72 (Option.bind (getI j29_9
        (IntKind.wrap .i64 ((j29_9.length : Int) - (1 : Int)))) fun v77 => (Option.bind (getI p1 j29_10) fun v81 => (Option.bind (m_step_Step F v77
        v81) fun v83 => (Option.bind (appI j29_9 ([v83] : List T_api_State)) fun v87 => m_hindcastlaw25_RingHolds_L28 F p1 n v87 (IntKind.wrap .i64
        (j29_10 + (1 : Int))))))) (m_hindcastlaw25_RingHolds_L28 F p1 n j29_9 (IntKind.wrap .i64 (j29_10 + (1 : Int))))))) (some j29_9))

def m_hindcastlaw25_RingHolds_L49 (F : Nat) (l29_9 : (List T_api_State)) : Nat → Int → Int → (Arr T_ring_place 14) → Option ((Bool × Int × (Arr T_ring_place 14)) ⊕ (Bool))
  | 0, _, _, _ => none
  | n + 1, j50_12, j50_n23_0_f0, j50_n23_0_f1 =>
      (cond (decide (j50_12 < (l29_9.length : Int))) (Option.bind (getI l29_9 j50_12) fun v97 => (Option.bind (m_ring_Ring_Put F (T_ring_Ring.mk
        j50_n23_0_f0 j50_n23_0_f1) v97) fun (o99_0, v99) => (cond (!v99) (some (.inr false)) (m_hindcastlaw25_RingHolds_L49 F l29_9 n (IntKind.wrap
        .i64 (j50_12 + (1 : Int))) o99_0.size o99_0.places)))) (some (.inl (false, j50_n23_0_f0, j50_n23_0_f1))))

def m_hindcastlaw25_RingHolds_L70 (F : Nat) (p2 : Int) (l29_9 : (List T_api_State)) (l50_6 : Bool) (l50_n23_0_f0 : Int) (l50_n23_0_f1 : (Arr T_ring_place 14)) : Nat → Int → Option ((Bool) ⊕ (Bool))
  | 0, _ => none
  | n + 1, j71_13 =>
      (cond (decide (j71_13 < (l29_9.length : Int))) (Option.bind (getI l29_9 j71_13) fun v111 => (Option.bind (m_ring_Ring_At F (T_ring_Ring.mk
        l50_n23_0_f0 l50_n23_0_f1) v111.Frame) fun (v114_0, v114_1) => (Option.bind (cond (v114_1 != (decide ((l29_9.length : Int) ≤ (IntKind.wrap
        .i64 (j71_13 + (IntKind.wrap .i64 ((1 : Int) + (IntKind.wrap .i64 (Int.tmod p2 14))))))))) (some (true)) ((Option.bind (cond v114_1
        ((Option.bind (getI l29_9 j71_13) fun v131 => (Option.bind (m_hindcastlaw25_holds F (T_ring_Ring.mk l50_n23_0_f0 l50_n23_0_f1) v131) fun v133
        => some ((!v133))))) (some (false))) fun v135 => some (v135)))) fun v136 => (cond v136 (some (.inr false)) (m_hindcastlaw25_RingHolds_L70 F p2
        l29_9 l50_6 l50_n23_0_f0 l50_n23_0_f1 n (IntKind.wrap .i64 (j71_13 + (1 : Int)))))))) (some (.inl l50_6)))

def m_hindcastlaw25_RingHolds (F : Nat) (p0 : T_api_State) (p1 : (List (Int × Int))) (p2 : Int) : Option (Bool) :=
  (Option.bind (m_ring_New F (IntKind.wrap .i64 ((1 : Int) + (IntKind.wrap .i64 (Int.tmod p2 14))))) fun v23 => poE (some false) (fun v23s =>
    (Option.bind (cond (decide ((100 : Int) < (p0.Shots.length : Int))) (some (true)) (some ((decide ((60 : Int) < (p1.length : Int)))))) fun v36 =>
    (cond v36 (Option.bind (m_hindcastlaw25_awake F) fun v40 => some v40) (Option.bind (m_state_Check F p0) fun v43 => (Option.bind (cond (v43 != (0 :
    Int)) (some (true)) (some ((decide ((4611686018427387904 : Int) < p0.Frame))))) fun v49 => (cond v49 (Option.bind (m_hindcastlaw25_awake F) fun
    v50 => some v50) (Option.bind (m_hindcastlaw25_RingHolds_L28 F p1 F ([p0] : List T_api_State) (0 : Int)) fun l29_9 => (Option.bind
    (m_hindcastlaw25_RingHolds_L49 F l29_9 F (0 : Int) v23s.size v23s.places) (orE (fun (l50_6, l50_n23_0_f0, l50_n23_0_f1) => (Option.bind
    (m_hindcastlaw25_RingHolds_L70 F p2 l29_9 l50_6 l50_n23_0_f0 l50_n23_0_f1 F (0 : Int)) (orE (fun l71_6 => (Option.bind (m_ring_Ring_Newest F
    (T_ring_Ring.mk l50_n23_0_f0 l50_n23_0_f1)) fun (v139_0, v139_1) => (Option.bind (cond v139_1 ((Option.bind (getI l29_9 (IntKind.wrap .i64
    ((l29_9.length : Int) - (1 : Int)))) fun v149 => (Option.bind (m_state_Same F v139_0 v149) fun v151 => some (v151)))) (some (false))) fun v152 =>
    (Option.bind (cond v152 ((Option.bind (m_ring_Ring_Len F (T_ring_Ring.mk l50_n23_0_f0 l50_n23_0_f1)) fun v155 => some ((v155 == (min (IntKind.wrap
    .i64 ((1 : Int) + (IntKind.wrap .i64 (Int.tmod p2 14)))) (l29_9.length : Int)))))) (some (false))) fun v161 => (Option.bind (cond v161
    ((Option.bind (m_hindcastlaw25_awake F) fun v163 => some (v163))) (some (false))) fun v164 => some v164))))) (fun r71 => some r71)))) (fun r50 =>
    some r50)))))))))) v23)

end Go.Proofs.YtbbkblolaficdaaDoor
